/- The statement ChainBreaks: the call returns true for every input, and its arguments read as before; no condition. -/
import Derived.Test.YtagdholenfkeaaaC1
set_option linter.unusedVariables false
set_option linter.unusedSimpArgs false
/- The statement ChainBreaks. -/
namespace Go.Proofs.Ytagdholenfkeaaa
open Go.Gh
set_option maxRecDepth 100000
set_option maxHeartbeats 4000000
structure kLk1 (c : Prop) : Prop where
  h : c := by (first | exact True.intro | omega | ((repeat' (first | exact intL_size _ | apply And.intro)) <;> first | exact True.intro | rfl | omega | (rw [intL_len]; done) | (rw [intL_len]; omega) | (simp only [inI, intL_len, List.length_append, List.length_cons, List.length_nil]; omega) | (simp [P.size]; done)) | exact hkk _ _ | exact keys50 (mapK_PK _) | exact ⟨trivial, keys50 (mapK_PK _)⟩ | exact keys50 (PK_put (mapK_PK _)) | exact ⟨trivial, keys50 (PK_put (mapK_PK _))⟩ | (simp only [intL_len, inI]; omega) | (simp only [inI]; omega) | (simp [P.size, pr, pk, all_int, allOne_p, goods_p, allOne, goods, good, G.one, P.one, P.cells] <;> first | omega | assumption | simp_all))
theorem nd_t {p : Prop} [Decidable p] (h : ¬ p) : (!decide p) = true := by rw [decide_eq_false h]; rfl
theorem nd_f {p : Prop} [Decidable p] (h : p) : (!decide p) = false := by rw [decide_eq_true h]; rfl
theorem bxn (b : Bool) : (!(b == b)) = false := by cases b <;> rfl
theorem x_holder (c : Ch) (hv : c.valid = true) (p : Nat) (hp : (p : Int) < c.pl) (n : Nat) (hn2 : n + 1 ≤ c.rs.length) : PSpec Try.prog 15 [.agg [.int .i64 c.pl, .int .i64 c.ps, .list (c.kn.map pk), .list (c.rs.map pr), .int .i64 c.ms], .int .i64 (p : Nat), .int .i64 ((n : Int) + 1)] (.ok (.tuple [.int .i64 (holN (p : Nat) c.rs (n + 1)), .int .i64 0])) := by
  have h := w_holder c hv p hp (n + 1) hn2
  rwa [Int.natCast_add] at h
theorem pathA_le (c : Ch) (x w : Int) : (pathA c x w).1.length ≤ 2000000 := by
  unfold pathA
  split
  · split
    · split
      · split
        · have := (pathL_len (kn := c.kn) (f := D (eF c.kn (-1))) (P := c.ps.toNat) (dst := (‹Rc›).f.toNat) (D (eF c.kn (-1)) (holN x c.rs w.toNat).toNat (‹Rc›).f.toNat).toNat (holN x c.rs w.toNat).toNat).2
          simp only; omega
        · simp
      · simp
    · simp
  · simp
theorem get_t {l : List Kw} {a b : Int} (h : knowI l a b = true) : mapGet (geq Try.prog 6 50) (.agg [.int .i64 a, .int .i64 b]) (mapK l) = some (.bool true) := by rw [mapK, foldK_get l PK_nil, if_pos h]
theorem kn_or (l : List Kw) (a b : Nat) : (knowI l (a : Nat) (b : Nat) = true ∧ mapGet (geq Try.prog 6 50) (.agg [.int .i64 (a : Nat), .int .i64 (b : Nat)]) (mapK l) = some (.bool true)) ∨ mapGet (geq Try.prog 6 50) (.agg [.int .i64 (a : Nat), .int .i64 (b : Nat)]) (mapK l) = none := by
  by_cases h : knowI l (a : Nat) (b : Nat) = true
  · exact .inl ⟨h, get_t h⟩
  · exact .inr (by rw [mapK, foldK_get l PK_nil, if_neg h]; rfl)
theorem int_one {h : Int} (h0 : 0 ≤ h) : [P.int .i64 h] = intL [h.toNat] := by simp only [intL, List.map_cons, List.map_nil]; rw [Int.toNat_of_nonneg h0]
theorem pre_next {M L : List Nat} {i : Nat} (h : ∀ j : Nat, j < i → M[j]? = L[j]?) (h2 : M[i]? = L[i]?) : ∀ j : Nat, j < i + 1 → M[j]? = L[j]? := fun j hj => by
  by_cases e : j = i
  · subst e; exact h2
  · exact h j (by omega)
theorem nbr_t {c : Ch} {k : Nat} (h : nbr c k = true) : nbr c (k + 1) = decide ((brkV c (k : Nat)).2 = 4) := by rw [nbr, h, Bool.true_and]
theorem nbr_f {c : Ch} {k : Nat} (h : nbr c k = false) : nbr c (k + 1) = false := by rw [nbr, h, Bool.false_and]
theorem sgL {E : Env Try.prog} {C : Cx E} {l l' : List (Nat × G)} {m : List (Nat × Ob)} {A : E.α} (h : l = l') : Le C (sg l m A []) (sg l' m A []) := by subst h; exact fun _ _ h => h
theorem way_or {c : Ch} {p : Int} {k : Nat} {r : Rc} (h : Way c p k r) :
    ((holN p c.rs k ≤ r.f ∧ r.f ≤ holN p c.rs k) ∧ (pathA c p k).2 ≤ 0 ∧ 0 ≤ (pathA c p k).2 ∧ wayL c.kn (pathA c p k).1 (holN p c.rs k).toNat r.f.toNat ∧ (∀ M, wayL c.kn M (holN p c.rs k).toNat r.f.toNat → (pathA c p k).1.length ≤ M.length ∧ (M.length ≤ (pathA c p k).1.length → ∀ i u v : Nat, (∀ j : Nat, j < i → M[j]? = (pathA c p k).1[j]?) → (pathA c p k).1[i]? = some u → M[i]? = some v → u ≤ v))) ∨
    ((¬ holN p c.rs k = r.f) ∧ (pathA c p k).2 ≤ 0 ∧ 0 ≤ (pathA c p k).2 ∧ wayL c.kn (pathA c p k).1 (holN p c.rs k).toNat r.f.toNat ∧ (∀ M, wayL c.kn M (holN p c.rs k).toNat r.f.toNat → (pathA c p k).1.length ≤ M.length ∧ (M.length ≤ (pathA c p k).1.length → ∀ i u v : Nat, (∀ j : Nat, j < i → M[j]? = (pathA c p k).1[j]?) → (pathA c p k).1[i]? = some u → M[i]? = some v → u ≤ v))) ∨
    ((¬ holN p c.rs k = r.f) ∧ (pathA c p k).2 ≤ 4 ∧ 4 ≤ (pathA c p k).2 ∧ (pathA c p k).1 = [] ∧ ∀ M, wayL c.kn M (holN p c.rs k).toNat r.f.toNat → 1048576 < M.length) := by
  rcases h with ⟨h1, h2, h3, h4⟩ | ⟨h1, h2, h3, h4, h5⟩
  · by_cases e : holN p c.rs k = r.f
    · exact .inl ⟨by omega, h1, h2, h3, h4⟩
    · exact .inr (.inl ⟨e, h1, h2, h3, h4⟩)
  · exact .inr (.inr ⟨h4, h1, h2, h3, h5⟩)
theorem least_or {c : Ch} (hv : c.valid = true) : ((leastA c).2 ≤ 0 ∧ 0 ≤ (leastA c).2 ∧ (leastA c).1 ≤ leastC c ∧ leastC c ≤ (leastA c).1) ∨ ((leastA c).2 ≤ 10 ∧ 10 ≤ (leastA c).2 ∧ ¬ leastC c = 0) := by
  rw [leastA, if_pos hv]
  by_cases h : leastC c < 1048576
  · rw [if_pos h]; exact .inl ⟨Int.le_refl _, Int.le_refl _, Int.le_refl _, Int.le_refl _⟩
  · rw [if_neg h]; exact .inr ⟨Int.le_refl _, Int.le_refl _, by omega⟩
theorem ent7 : Enters Try.prog 7 := Enters.mk Try.func7 (by kernel_rfl) rfl
theorem l_breaks (c : Ch) (x : Int) (bs : List Int) (hbl : bs.length ≤ maxLen) (hbs : ∀ b ∈ bs, 0 ≤ b ∧ b ≤ 255) : PSpec Try.prog 7 [.agg [.int .i64 c.pl, .int .i64 c.ps, .list (c.kn.map pk), .list (c.rs.map pr), .int .i64 c.ms], .int .i64 x, .list (bs.map (.int .u8))] (.ok (.bool true)) := by
  refine pspec_of Try.func7 (rfl : Try.f7.body = some _) rfl ?_
  intro E A C hN hL
  replace hN : C.N = 360 := hN
  simp only [Gh.num, List.map_cons, List.map_nil, Nat.reduceAdd]
  replace hbl : bs.length ≤ 9223372036854775807 := Nat.le_trans hbl (by decide)
  have hdt : ∀ (i : Decidable True), @decide True i = true := fun i => decide_eq_true trivial
  have hdf : ∀ (i : Decidable False), @decide False i = false := fun i => decide_eq_false id
  have hbt : (true == true) = true := rfl
  have hbf : (false == false) = true := rfl
  have htf : (true == false) = false := rfl
  have hft : (false == true) = false := rfl
  have hpk : ∀ k : Kw, pk k = P.agg [.int .i64 k.a, .int .i64 k.b] := fun _ => rfl
  have hpr : ∀ r : Rc, pr r = P.agg [.int .i64 r.p, .int .i64 r.f, .int .i64 r.t] := fun _ => rfl
  repeat refine gwp_seq ?_
  refine gwp_region ?_
  refine n1 130 false (hc := kLk1.h {}) (k := ?_)
  refine v0 (k := ?_)
  refine nil0 ?_
  refine cl [1, 2, 3] (k := ?_)
  repeat refine gwp_seq ?_
  refine gwp_region ?_
  refine v0 (k := ?_)
  refine pc0 (spec := l_great c 12) (hent := ent13) (k := ?_)
  refine v0 (k := ?_)
  refine b0 (k1 := fun hb1 => ?_) (k0 := fun hb1 => ?_)
  · replace hb1 := hB.h {} hb1
    try rw [eqI] at hb1
    refine x0 (k := ?_)
    refine x0 (k := ?_)
    refine x0 (k := ?_)
    refine v0 (k := ?_)
    refine v0 (k := ?_)
    refine x0 (k := ?_)
    refine x0 (k := ?_)
    refine v0 (k := ?_)
    refine v0 (k := ?_)
    refine x0 (k := ?_)
    refine x0 (k := ?_)
    refine x0 (k := ?_)
    refine x0 (k := ?_)
    refine v0 (k := ?_)
    refine nil0 ?_
    repeat refine gwp_seq ?_
    refine cT (k := ?_)
    repeat refine gwp_seq ?_
    refine gwp_region ?_
    refine pc0 (spec := l_alive) (hent := ent14) (k := ?_)
    refine v0 (k := ?_)
    refine nil0 ?_
    repeat refine gwp_seq ?_
    refine gwp_ret ?_
    repeat (first | refine gthen_ret ?_ | refine gblock_ret ?_ | refine gnoGoto_ret ?_)
    refine fin_ret ?_
    refine fp (hR := ?_)
    rfl
  · replace hb1 := hB.h {} hb1
    try rw [eqI] at hb1
    obtain ⟨hk6, hr6⟩ := great_len (by assumption)
    refine w0 (k := ?_)
    refine pcw (spec := r_chain c (by omega) (by omega)) (hent := ent35) (k := ?_)
    refine w0 (k := ?_)
    refine v0 (k := ?_)
    refine v0 (k := ?_)
    refine b0 (k1 := fun hb2 => ?_) (k0 := fun hb2 => ?_)
    · replace hb2 := hB.h {} hb2
      try rw [eqI] at hb2
      refine x0 (k := ?_)
      refine x0 (k := ?_)
      refine v0 (k := ?_)
      refine v0 (k := ?_)
      refine x0 (k := ?_)
      refine x0 (k := ?_)
      refine x0 (k := ?_)
      refine x0 (k := ?_)
      refine v0 (k := ?_)
      refine nil0 ?_
      repeat refine gwp_seq ?_
      refine cT (k := ?_)
      repeat refine gwp_seq ?_
      refine gwp_region ?_
      refine pc0 (spec := l_alive) (hent := ent14) (k := ?_)
      refine v0 (k := ?_)
      refine nil0 ?_
      repeat refine gwp_seq ?_
      refine gwp_ret ?_
      repeat (first | refine gthen_ret ?_ | refine gblock_ret ?_ | refine gnoGoto_ret ?_)
      refine fin_ret ?_
      refine fp (hR := ?_)
      rfl
    · replace hb2 := hB.h {} hb2
      try rw [eqI] at hb2
      refine w0 (k := ?_)
      refine w0 (k := ?_)
      refine v0 (k := ?_)
      refine v0 (k := ?_)
      refine b0 (k1 := fun hb3 => ?_) (k0 := fun hb3 => ?_)
      · replace hb3 := hB.h {} hb3
        try rw [eqI] at hb3
        refine x0 (k := ?_)
        refine x0 (k := ?_)
        refine x0 (k := ?_)
        refine x0 (k := ?_)
        refine v0 (k := ?_)
        refine nil0 ?_
        repeat refine gwp_seq ?_
        refine cT (k := ?_)
        repeat refine gwp_seq ?_
        refine gwp_region ?_
        refine pc0 (spec := l_alive) (hent := ent14) (k := ?_)
        refine v0 (k := ?_)
        refine nil0 ?_
        repeat refine gwp_seq ?_
        refine gwp_ret ?_
        repeat (first | refine gthen_ret ?_ | refine gblock_ret ?_ | refine gnoGoto_ret ?_)
        refine fin_ret ?_
        refine fp (hR := ?_)
        rfl
      · replace hb3 := hB.h {} hb3
        try rw [eqI] at hb3
        refine w0 (k := ?_)
        refine w0 (k := ?_)
        refine w0 (k := ?_)
        refine w0 (k := ?_)
        refine v0 (k := ?_)
        refine nil0 ?_
        repeat refine gwp_seq ?_
        refine cB (k1 := fun hb4 => ?_) (k0 := fun hb4 => ?_)
        · replace hb4 := hB.h {} hb4
          try rw [eqI] at hb4
          repeat refine gwp_seq ?_
          refine gwp_region ?_
          refine pc0 (spec := l_alive) (hent := ent14) (k := ?_)
          refine v0 (k := ?_)
          refine nil0 ?_
          repeat refine gwp_seq ?_
          refine gwp_ret ?_
          repeat (first | refine gthen_ret ?_ | refine gblock_ret ?_ | refine gnoGoto_ret ?_)
          refine fin_ret ?_
          refine fp (hR := ?_)
          rfl
        · replace hb4 := hB.h {} hb4
          try rw [eqI] at hb4
          repeat refine gwp_seq ?_
          refine gwp_skip ?_
          refine cl [1, 2, 3] (k := ?_)
          repeat refine gwp_seq ?_
          have hv : c.valid = true := by assumption
          obtain ⟨p, rfl⟩ : ∃ p : Nat, x = p := ⟨x.toNat, by omega⟩
          have hn := valid_num hv
          have hpl : (p : Int) < c.pl := by omega
          have hpq : inQ (p : Nat) c.pl = true := by simp only [inQ]; rw [decide_eq_true (by omega), decide_eq_true (by omega)]; rfl
          have hkk : ∀ a b : Int, keysOk (geq Try.prog 6 50) (.agg [.int .i64 a, .int .i64 b]) (mapK c.kn) := fun a b => keys50 (mapK_PK _)
          refine gwp_region ?_
          refine n1 630 false (hc := kLk1.h {}) (k := ?_)
          refine v0 (k := ?_)
          refine nil0 ?_
          refine cl [1, 2, 3, 7] (k := ?_)
          repeat refine gwp_seq ?_
          refine gwp_region ?_
          refine v0 (k := ?_)
          refine v0 (k := ?_)
          refine v0 (k := ?_)
          refine v0 (k := ?_)
          refine nil0 ?_
          refine cl [1, 2, 3, 7, 55, 56, 57] (k := ?_)
          repeat refine gwp_seq ?_
          refine gwp_block ?_
          repeat refine gwp_seq ?_
          refine gc_loop (fun mz σ => ∃ k : Nat, (k ≤ c.kn.length) ∧ mz = c.kn.length - k ∧ σ = (sg [(1, .p (.int .i64 (p : Nat))), (2, .p (.list (bs.map (.int .u8)))), (3, .ref 130 0), (7, .map 630), (55, .p (.list (c.kn.map pk))), (56, .p (.int .i64 (c.kn.length : Nat))), (57, .p (.int .i64 (k : Nat)))] [(130, .cells [.p (.int .i64 c.pl), .p (.int .i64 c.ps), .p (.list (c.kn.map pk)), .p (.list (c.rs.map pr)), .p (.int .i64 c.ms)] 0), (630, .map (mapK (c.kn.take k)))] A [] : Sg E)) ?_ (fun mz σ hI => ?_)
          · refine lbeg [1, 2, 3, 7, 55, 56, 57] (hV := ?_)
            exact ⟨_, 0, by omega, rfl, rfl⟩
          obtain ⟨k, hk, hnn, rfl⟩ := hI
          repeat refine gwp_seq ?_
          refine gwp_region ?_
          refine v0 (k := ?_)
          refine nil0 ?_
          repeat refine gwp_seq ?_
          refine cB (k1 := fun hb5 => ?_) (k0 := fun hb5 => ?_)
          · replace hb5 := hB.h {} hb5
            try rw [eqI] at hb5
            repeat refine gwp_seq ?_
            refine gwp_skip ?_
            refine cl [1, 2, 3, 7, 55, 56, 57] (k := ?_)
            repeat refine gwp_seq ?_
            refine gwp_block ?_
            repeat refine gwp_seq ?_
            obtain ⟨z, hz⟩ := getE (l := c.kn) (k := k) (by omega)
            obtain ⟨za, zb⟩ := z
            refine gwp_region ?_
            refine v1 (hc := kLk1.h {}) (k := ?_)
            refine v0 (k := ?_)
            refine n1 190 false (hc := kLk1.h {}) (k := ?_)
            refine s1 (hc := kLk1.h {}) (k := ?_)
            refine nil0 ?_
            refine cl [1, 2, 3, 7, 9, 55, 56, 57] (k := ?_)
            repeat refine gwp_seq ?_
            refine rd ?_
            refine da0 0 (k := ?_)
            refine d0 1 (k := ?_)
            refine da0 2 (k := ?_)
            refine d1 3 (hc := kLk1.h {}) (k := ?_)
            refine d0 4 (k := ?_)
            refine d1 5 (hc := kLk1.h {}) (k := ?_)
            refine d0 6 (k := ?_)
            refine d0 7 (k := ?_)
            refine ds1 8 (hc := kLk1.h {}) (k := ?_)
            refine ds1 9 (hc := kLk1.h {}) (k := ?_)
            refine dz 10 [0, 0, 0, 0, 8, 0, 32, 120, 3, 511] (h := ?_)
            refine de 10 (h := ?_)
            refine cl [1, 2, 3, 7, 55, 56, 57] (k := ?_)
            repeat refine gwp_seq ?_
            refine gwp_region ?_
            refine v1 (hc := kLk1.h {}) (k := ?_)
            refine v0 (k := ?_)
            refine nil0 ?_
            refine lend [1, 2, 3, 7, 55, 56, 57] (h := ?_) (hV := ?_) (n' := c.kn.length - (k + 1))
            · omega
            exact ⟨k + 1, by omega, rfl, sgE rfl (by rw [mapK_next hz])⟩
          · replace hb5 := hB.h {} hb5
            try rw [eqI] at hb5
            repeat refine gwp_seq ?_
            refine gwp_exit ?_
            repeat (first | refine gthen_exit ?_ | refine gnoGoto_exit ?_ | refine gblock_here ?_ | refine gblock_out rfl ?_)
            refine cl [1, 2, 3, 7] (k := ?_)
            repeat refine gwp_seq ?_
            obtain rfl : k = c.kn.length := by omega
            rw [List.take_length]
            refine gwp_region ?_
            refine v0 (k := ?_)
            refine v0 (k := ?_)
            refine pc0 (spec := w_break c hv p hpl) (hent := ent17) (k := ?_)
            refine v0 (k := ?_)
            refine v0 (k := ?_)
            refine v0 (k := ?_)
            refine v0 (k := ?_)
            refine v0 (k := ?_)
            refine nil0 ?_
            refine cl [1, 2, 3, 7, 10, 11] (k := ?_)
            repeat refine gwp_seq ?_
            refine gwp_region ?_
            refine v0 (k := ?_)
            refine nil0 ?_
            refine cl [1, 2, 3, 7, 10, 11, 12] (k := ?_)
            repeat refine gwp_seq ?_
            refine gwp_region ?_
            refine v0 (k := ?_)
            refine v0 (k := ?_)
            refine v0 (k := ?_)
            refine v0 (k := ?_)
            refine nil0 ?_
            refine cl [1, 2, 3, 7, 10, 11, 12, 77, 78, 79] (k := ?_)
            repeat refine gwp_seq ?_
            refine gwp_block ?_
            repeat refine gwp_seq ?_
            refine gc_loop (fun mz σ => ∃ k : Nat, (k ≤ c.rs.length) ∧ mz = c.rs.length - k ∧ σ = (sg [(1, .p (.int .i64 (p : Nat))), (2, .p (.list (bs.map (.int .u8)))), (3, .ref 130 0), (7, .map 630), (10, .p (.int .i64 (brkV c (p : Nat)).1)), (11, .p (.int .i64 (brkV c (p : Nat)).2)), (12, .p (.int .i64 (fbN (p : Nat) c.rs k))), (77, .p (.list (c.rs.map pr))), (78, .p (.int .i64 (c.rs.length : Nat))), (79, .p (.int .i64 (k : Nat)))] [(130, .cells [.p (.int .i64 c.pl), .p (.int .i64 c.ps), .p (.list (c.kn.map pk)), .p (.list (c.rs.map pr)), .p (.int .i64 c.ms)] 0), (630, .map (mapK c.kn))] A [] : Sg E)) ?_ (fun mz σ hI => ?_)
            · refine lbeg [1, 2, 3, 7, 10, 11, 12, 77, 78, 79] (hV := ?_)
              exact ⟨_, 0, by omega, rfl, rfl⟩
            obtain ⟨k, hk, hnn, rfl⟩ := hI
            repeat refine gwp_seq ?_
            refine gwp_region ?_
            refine v0 (k := ?_)
            refine nil0 ?_
            repeat refine gwp_seq ?_
            refine cB (k1 := fun hb6 => ?_) (k0 := fun hb6 => ?_)
            · replace hb6 := hB.h {} hb6
              try rw [eqI] at hb6
              repeat refine gwp_seq ?_
              refine gwp_skip ?_
              refine cl [1, 2, 3, 7, 10, 11, 12, 77, 78, 79] (k := ?_)
              repeat refine gwp_seq ?_
              refine gwp_block ?_
              repeat refine gwp_seq ?_
              obtain ⟨r, hr⟩ := getE (l := c.rs) (k := k) (by omega)
              have hri := valid_rs hv (List.mem_of_getElem? hr)
              obtain ⟨rp, rf, rt⟩ := r
              simp only at hri
              refine gwp_region ?_
              refine v0 (k := ?_)
              refine v1 (hc := kLk1.h {}) (k := ?_)
              refine v0 (k := ?_)
              refine n1 240 false (hc := kLk1.h {}) (k := ?_)
              refine v0 (k := ?_)
              refine s1 (hc := kLk1.h {}) (k := ?_)
              refine nil0 ?_
              refine cl [1, 2, 3, 7, 10, 11, 12, 13, 14, 77, 78, 79] (k := ?_)
              repeat refine gwp_seq ?_
              refine gwp_region ?_
              refine v0 (k := ?_)
              refine v0 (k := ?_)
              refine v0 (k := ?_)
              refine v0 (k := ?_)
              refine nil0 ?_
              repeat refine gwp_seq ?_
              refine cB (k1 := fun hb7 => ?_) (k0 := fun hb7 => ?_)
              · replace hb7 := hB.h {} hb7
                try rw [eqI] at hb7
                repeat refine gwp_seq ?_
                have h2 := path_not hv hr (by simp only; omega : ¬ _ = ((p : Nat) : Int))
                refine gwp_region ?_
                refine v0 (k := ?_)
                refine v0 (k := ?_)
                refine v0 (k := ?_)
                refine pc0 (spec := c_path c (by omega) (by omega) (p : Nat) (k : Nat)) (hent := ent19) (k := ?_)
                refine v0 (k := ?_)
                refine v0 (k := ?_)
                refine v0 (k := ?_)
                refine v0 (k := ?_)
                refine v0 (k := ?_)
                refine nil0 ?_
                refine cl [1, 2, 3, 7, 10, 11, 12, 16, 77, 78, 79] (k := ?_)
                repeat refine gwp_seq ?_
                refine gwp_region ?_
                refine v0 (k := ?_)
                refine v0 (k := ?_)
                refine rb 96 false (h := by (first | with_reducible rfl | exact decide_eq_false (by omega) | exact nd_f (by omega) | rfl | decide)) (k := ?_)
                refine nil0 ?_
                repeat refine gwp_seq ?_
                refine cF (k := ?_)
                repeat refine gwp_seq ?_
                refine gwp_skip ?_
                refine cl [1, 2, 3, 7, 10, 11, 12, 77, 78, 79] (k := ?_)
                repeat refine gwp_seq ?_
                refine gwp_exit ?_
                repeat (first | refine gthen_exit ?_ | refine gnoGoto_exit ?_ | refine gblock_here ?_ | refine gblock_out rfl ?_)
                refine cl [1, 2, 3, 7, 10, 11, 12, 77, 78, 79] (k := ?_)
                repeat refine gwp_seq ?_
                refine gwp_region ?_
                refine v1 (hc := kLk1.h {}) (k := ?_)
                refine v0 (k := ?_)
                refine nil0 ?_
                refine lend [1, 2, 3, 7, 10, 11, 12, 77, 78, 79] (h := ?_) (hV := ?_) (n' := c.rs.length - (k + 1))
                · omega
                first
                | exact ⟨k + 1, by omega, rfl, rfl⟩
                | exact ⟨k + 1, by omega, rfl, sgE (by rw [fb_skip hr (by simp only; omega)]; rfl) rfl⟩
                | exact ⟨k + 1, by omega, rfl, sgE (by rw [fb_same hr (by simp only; omega)]; rfl) rfl⟩
              · replace hb7 := hB.h {} hb7
                try rw [eqI] at hb7
                repeat refine gwp_seq ?_
                refine gwp_skip ?_
                refine cl [1, 2, 3, 7, 10, 11, 12, 13, 14, 77, 78, 79] (k := ?_)
                repeat refine gwp_seq ?_
                obtain rfl : rp = ((p : Nat) : Int) := by omega
                have hhl := hol_lt hv (p := (p : Nat)) k
                have hh1 : holN (p : Nat) c.rs (k + 1) ≤ rt ∧ rt ≤ holN (p : Nat) c.rs (k + 1) := by rw [hol_next hr rfl]; simp
                have hps := path_say hv hpq hr rfl
                have hfb := fb_in (x := (p : Nat)) (rs := c.rs) k
                have hpt := way_or hps
                dsimp only at hpt
                clear hps
                rcases hpt with ⟨hsm, he1, he2, hL, hmin⟩ | ⟨hsm, he1, he2, hL, hmin⟩ | ⟨hsm, he1, he2, hLe, hno⟩
                · have hLsz := pathA_le c (p : Nat) (k : Nat)
                  have hIL : (intL (pathA c (p : Nat) (k : Nat)).1).length ≤ (pathA c (p : Nat) (k : Nat)).1.length ∧ (pathA c (p : Nat) (k : Nat)).1.length ≤ (intL (pathA c (p : Nat) (k : Nat)).1).length := by rw [intL_len]; omega
                  have hw0 := (wayL_head hL).1
                  have hw1 := (wayL_head hL).2
                  have hwl := wayL_last hL
                  repeat refine gwp_seq ?_
                  refine gwp_region ?_
                  refine v0 (k := ?_)
                  refine v0 (k := ?_)
                  refine v0 (k := ?_)
                  refine pc0 (spec := w_holder c hv p hpl k (by omega)) (hent := ent15) (k := ?_)
                  refine v0 (k := ?_)
                  refine v0 (k := ?_)
                  refine v0 (k := ?_)
                  refine v0 (k := ?_)
                  refine v0 (k := ?_)
                  refine nil0 ?_
                  refine cl [1, 2, 3, 7, 10, 11, 12, 13, 14, 17, 18, 77, 78, 79] (k := ?_)
                  repeat refine gwp_seq ?_
                  refine gwp_region ?_
                  refine v0 (k := ?_)
                  refine v0 (k := ?_)
                  refine v0 (k := ?_)
                  refine v1 (hc := kLk1.h {}) (k := ?_)
                  refine pc0 (spec := x_holder c hv p hpl k (by omega)) (hent := ent15) (k := ?_)
                  refine v0 (k := ?_)
                  refine v0 (k := ?_)
                  refine v0 (k := ?_)
                  refine v0 (k := ?_)
                  refine v0 (k := ?_)
                  refine nil0 ?_
                  refine cl [1, 2, 3, 7, 10, 11, 12, 13, 14, 17, 18, 19, 20, 77, 78, 79] (k := ?_)
                  repeat refine gwp_seq ?_
                  refine gwp_region ?_
                  refine v0 (k := ?_)
                  refine v0 (k := ?_)
                  refine rb 113 false (h := by (first | with_reducible rfl | exact decide_eq_false (by omega) | exact nd_f (by omega) | rfl | decide)) (k := ?_)
                  refine v0 (k := ?_)
                  refine w0 (k := ?_)
                  refine w0 (k := ?_)
                  refine rb 116 false (h := by (first | with_reducible rfl | exact decide_eq_false (by omega) | exact nd_f (by omega) | rfl | decide)) (k := ?_)
                  refine v0 (k := ?_)
                  refine v0 (k := ?_)
                  refine w0 (k := ?_)
                  refine w0 (k := ?_)
                  refine w0 (k := ?_)
                  refine w0 (k := ?_)
                  refine rb 122 false (h := by (first | with_reducible rfl | exact decide_eq_false (by omega) | exact nd_f (by omega) | rfl | decide)) (k := ?_)
                  refine v0 (k := ?_)
                  refine nil0 ?_
                  repeat refine gwp_seq ?_
                  refine cF (k := ?_)
                  repeat refine gwp_seq ?_
                  refine gwp_skip ?_
                  refine cl [1, 2, 3, 7, 10, 11, 12, 13, 14, 17, 77, 78, 79] (k := ?_)
                  repeat refine gwp_seq ?_
                  refine gwp_region ?_
                  refine v0 (k := ?_)
                  refine v0 (k := ?_)
                  refine v0 (k := ?_)
                  refine v0 (k := ?_)
                  refine rb 127 false (h := by (first | with_reducible rfl | exact decide_eq_false (by omega) | exact nd_f (by omega) | rfl | decide)) (k := ?_)
                  refine v0 (k := ?_)
                  refine x0 (k := ?_)
                  refine x0 (k := ?_)
                  refine v0 (k := ?_)
                  refine nil0 ?_
                  repeat refine gwp_seq ?_
                  refine cF (k := ?_)
                  repeat refine gwp_seq ?_
                  refine gwp_skip ?_
                  refine cl [1, 2, 3, 7, 10, 11, 12, 13, 14, 17, 77, 78, 79] (k := ?_)
                  repeat refine gwp_seq ?_
                  refine gwp_region ?_
                  refine v0 (k := ?_)
                  refine v0 (k := ?_)
                  refine v0 (k := ?_)
                  refine pc0 (spec := c_path c (by omega) (by omega) (p : Nat) (k : Nat)) (hent := ent19) (k := ?_)
                  refine v0 (k := ?_)
                  refine v0 (k := ?_)
                  refine v0 (k := ?_)
                  refine v0 (k := ?_)
                  refine v0 (k := ?_)
                  refine nil0 ?_
                  refine cl [1, 2, 3, 7, 10, 11, 12, 14, 17, 21, 22, 77, 78, 79] (k := ?_)
                  repeat refine gwp_seq ?_
                  refine gwp_region ?_
                  refine v0 (k := ?_)
                  refine v0 (k := ?_)
                  refine rb 141 false (h := by (first | with_reducible rfl | exact decide_eq_false (by omega) | exact nd_f (by omega) | rfl | decide)) (k := ?_)
                  refine v0 (k := ?_)
                  refine x0 (k := ?_)
                  refine x0 (k := ?_)
                  refine x0 (k := ?_)
                  refine x1 (k := ?_)
                  refine x1 (k := ?_)
                  refine x1 (k := ?_)
                  refine x0 (k := ?_)
                  refine x0 (k := ?_)
                  refine x1 (k := ?_)
                  refine x1 (k := ?_)
                  refine x1 (k := ?_)
                  refine x1 (k := ?_)
                  refine x0 (k := ?_)
                  refine v0 (k := ?_)
                  refine nil0 ?_
                  repeat refine gwp_seq ?_
                  refine cF (k := ?_)
                  repeat refine gwp_seq ?_
                  refine gwp_skip ?_
                  refine cl [1, 2, 3, 7, 10, 11, 12, 14, 17, 21, 22, 77, 78, 79] (k := ?_)
                  repeat refine gwp_seq ?_
                  refine gwp_region ?_
                  refine v0 (k := ?_)
                  refine v0 (k := ?_)
                  refine rb 158 true (h := by (first | with_reducible rfl | exact decide_eq_true (by omega) | exact nd_t (by omega) | rfl | decide)) (k := ?_)
                  refine nil0 ?_
                  repeat refine gwp_seq ?_
                  refine cT (k := ?_)
                  repeat refine gwp_seq ?_
                  have f161 : ¬ ((intL (pathA c (p : Nat) (k : Nat)).1).length : Int) = 0 := by rw [intL_len]; omega
                  have hL0 : (intL (pathA c (p : Nat) (k : Nat)).1)[0]? = some (.int .i64 (holN (p : Nat) c.rs k)) := by rw [int_at hw0, Int.toNat_of_nonneg hhl.1]
                  have hLl : (intL (pathA c (p : Nat) (k : Nat)).1)[(((intL (pathA c (p : Nat) (k : Nat)).1).length : Int) - 1).toNat]? = some (.int .i64 rf) := by rw [int_last (by rw [intL_len]; omega) hwl]; rw [Int.toNat_of_nonneg (by omega)]
                  refine rd ?_
                  refine d0 0 (k := ?_)
                  refine d0 1 (k := ?_)
                  refine d0 2 (k := ?_)
                  refine d0 3 (k := ?_)
                  refine dw0 4 (k := ?_)
                  refine dw1 5 (hc := kLk1.h {}) (k := ?_)
                  refine dw0 6 (k := ?_)
                  refine dw0 7 (k := ?_)
                  refine dw0 8 (k := ?_)
                  refine d0 9 (k := ?_)
                  refine d0 10 (k := ?_)
                  refine dw0 11 (k := ?_)
                  refine dw0 12 (k := ?_)
                  refine dw0 13 (k := ?_)
                  refine dw1 14 (hc := kLk1.h {}) (k := ?_)
                  refine dw1 15 (hc := kLk1.h {}) (k := ?_)
                  refine dw0 16 (k := ?_)
                  refine dw0 17 (k := ?_)
                  refine dw0 18 (k := ?_)
                  refine dw0 19 (k := ?_)
                  refine d0 20 (k := ?_)
                  refine dz 21 [0, 1, 3, 7, 15, 31, 63, 15, 255, 511, 1023, 2047, 2047, 6143, 14335, 32767, 65535, 2047, 133119, 524287, 1048575] (h := ?_)
                  refine de 21 (h := ?_)
                  repeat refine gwp_seq ?_
                  refine cF (k := ?_)
                  repeat refine gwp_seq ?_
                  refine gwp_skip ?_
                  refine cl [1, 2, 3, 7, 10, 11, 12, 14, 17, 21, 22, 77, 78, 79] (k := ?_)
                  repeat refine gwp_seq ?_
                  refine gwp_region ?_
                  refine v0 (k := ?_)
                  refine nil0 ?_
                  refine cl [1, 2, 3, 7, 10, 11, 12, 14, 17, 21, 22, 23, 77, 78, 79] (k := ?_)
                  repeat refine gwp_seq ?_
                  refine gwp_block ?_
                  repeat refine gwp_seq ?_
                  refine gc_loop (fun mz σ => ∃ i : Nat, (1 ≤ i) ∧ (i ≤ (pathA c (p : Nat) (k : Nat)).1.length) ∧ mz = (pathA c (p : Nat) (k : Nat)).1.length - i ∧ σ = (sg [(1, .p (.int .i64 (p : Nat))), (2, .p (.list (bs.map (.int .u8)))), (3, .ref 130 0), (7, .map 630), (10, .p (.int .i64 (brkV c (p : Nat)).1)), (11, .p (.int .i64 (brkV c (p : Nat)).2)), (12, .p (.int .i64 (fbN (p : Nat) c.rs k))), (14, .ref 240 0), (17, .p (.int .i64 (holN (p : Nat) c.rs k))), (21, .p (.list (intL (pathA c (p : Nat) (k : Nat)).1))), (22, .p (.int .i64 (pathA c (p : Nat) (k : Nat)).2)), (23, .p (.int .i64 (i : Nat))), (77, .p (.list (c.rs.map pr))), (78, .p (.int .i64 (c.rs.length : Nat))), (79, .p (.int .i64 (k : Nat)))] [(130, .cells [.p (.int .i64 c.pl), .p (.int .i64 c.ps), .p (.list (c.kn.map pk)), .p (.list (c.rs.map pr)), .p (.int .i64 c.ms)] 0), (630, .map (mapK c.kn)), (240, .cells [.p (.int .i64 (p : Nat)), .p (.int .i64 rf), .p (.int .i64 rt)] 0)] A [] : Sg E)) ?_ (fun mz σ hI => ?_)
                  · refine lbeg [1, 2, 3, 7, 10, 11, 12, 14, 17, 21, 22, 23, 77, 78, 79] (hV := ?_)
                    exact ⟨_, 1, by omega, by omega, rfl, rfl⟩
                  obtain ⟨i, hi1, hi2, hni, rfl⟩ := hI
                  repeat refine gwp_seq ?_
                  refine gwp_region ?_
                  refine v0 (k := ?_)
                  refine v0 (k := ?_)
                  refine v0 (k := ?_)
                  refine v0 (k := ?_)
                  refine nil0 ?_
                  repeat refine gwp_seq ?_
                  refine cB (k1 := fun hb8 => ?_) (k0 := fun hb8 => ?_)
                  · replace hb8 := hB.h {} hb8
                    try rw [eqI] at hb8
                    repeat refine gwp_seq ?_
                    refine gwp_skip ?_
                    refine cl [1, 2, 3, 7, 10, 11, 12, 14, 17, 21, 22, 23, 77, 78, 79] (k := ?_)
                    repeat refine gwp_seq ?_
                    refine gwp_block ?_
                    repeat refine gwp_seq ?_
                    obtain ⟨u, hu⟩ := getE (l := (pathA c (p : Nat) (k : Nat)).1) (k := i - 1) (by omega)
                    obtain ⟨v, hvv⟩ := getE (l := (pathA c (p : Nat) (k : Nat)).1) (k := i) (by omega)
                    have hkn := wayL_step hL hu (by rw [show i - 1 + 1 = i by omega]; exact hvv)
                    have hu1 : (intL (pathA c (p : Nat) (k : Nat)).1)[((i : Int) - 1).toNat]? = some (.int .i64 (u : Nat)) := by rw [show ((i : Int) - 1).toNat = i - 1 by omega]; exact int_at hu
                    have hv1 := int_at hvv
                    have hmg := get_t hkn
                    clear hkn
                    refine rd ?_
                    refine d0 0 (k := ?_)
                    refine d0 1 (k := ?_)
                    refine d0 2 (k := ?_)
                    refine d1 3 (hc := kLk1.h {}) (k := ?_)
                    refine d1 4 (hc := kLk1.h {}) (k := ?_)
                    refine d0 5 (k := ?_)
                    refine d0 6 (k := ?_)
                    refine d0 7 (k := ?_)
                    refine d1 8 (hc := kLk1.h {}) (k := ?_)
                    refine d0 9 (k := ?_)
                    refine d0 10 (k := ?_)
                    refine d1 11 (hc := kLk1.h {}) (k := ?_)
                    refine d0 12 (k := ?_)
                    refine dz 13 [0, 0, 0, 4, 14, 30, 0, 0, 192, 448, 1022, 2047, 4095] (h := ?_)
                    refine de 13 (h := ?_)
                    repeat refine gwp_seq ?_
                    refine cF (k := ?_)
                    repeat refine gwp_seq ?_
                    refine gwp_skip ?_
                    refine cl [1, 2, 3, 7, 10, 11, 12, 14, 17, 21, 22, 23, 77, 78, 79] (k := ?_)
                    repeat refine gwp_seq ?_
                    refine gwp_region ?_
                    refine v0 (k := ?_)
                    refine v1 (hc := kLk1.h {}) (k := ?_)
                    refine v0 (k := ?_)
                    refine nil0 ?_
                    refine lend [1, 2, 3, 7, 10, 11, 12, 14, 17, 21, 22, 23, 77, 78, 79] (h := ?_) (hV := ?_) (n' := (pathA c (p : Nat) (k : Nat)).1.length - (i + 1))
                    · omega
                    exact ⟨i + 1, by omega, by omega, rfl, rfl⟩
                  · replace hb8 := hB.h {} hb8
                    try rw [eqI] at hb8
                    repeat refine gwp_seq ?_
                    refine gwp_exit ?_
                    repeat (first | refine gthen_exit ?_ | refine gnoGoto_exit ?_ | refine gblock_here ?_ | refine gblock_out rfl ?_)
                    refine cl [1, 2, 3, 7, 10, 11, 12, 14, 17, 21, 22, 77, 78, 79] (k := ?_)
                    repeat refine gwp_seq ?_
                    refine gwp_region ?_
                    refine v0 (k := ?_)
                    refine n1 2100 false (hc := kLk1.h {}) (k := ?_)
                    refine v0 (k := ?_)
                    refine nil0 ?_
                    refine cl [1, 2, 3, 7, 10, 11, 12, 14, 21, 22, 24, 77, 78, 79] (k := ?_)
                    repeat refine gwp_seq ?_
                    refine gwp_region ?_
                    refine v0 (k := ?_)
                    refine v0 (k := ?_)
                    refine v0 (k := ?_)
                    refine nil0 ?_
                    refine cl [1, 2, 3, 7, 10, 11, 12, 14, 21, 22, 24, 77, 78, 79, 201, 202, 203] (k := ?_)
                    repeat refine gwp_seq ?_
                    refine gwp_block ?_
                    repeat refine gwp_seq ?_
                    refine gc_loop (fun mz σ => ∃ (j : Nat) (M : List Nat) (q : Nat), (j ≤ bs.length) ∧ (wayL c.kn M (holN (p : Nat) c.rs k).toNat q) ∧ (M.length ≤ 12) ∧ mz = bs.length - j ∧ σ = (sg [(1, .p (.int .i64 (p : Nat))), (2, .p (.list (bs.map (.int .u8)))), (3, .ref 130 0), (7, .map 630), (10, .p (.int .i64 (brkV c (p : Nat)).1)), (11, .p (.int .i64 (brkV c (p : Nat)).2)), (12, .p (.int .i64 (fbN (p : Nat) c.rs k))), (14, .ref 240 0), (21, .p (.list (intL (pathA c (p : Nat) (k : Nat)).1))), (22, .p (.int .i64 (pathA c (p : Nat) (k : Nat)).2)), (24, .own 2100 M.length), (77, .p (.list (c.rs.map pr))), (78, .p (.int .i64 (c.rs.length : Nat))), (79, .p (.int .i64 (k : Nat))), (201, .p (.list (bs.map (.int .u8)))), (202, .p (.int .i64 (bs.length : Nat))), (203, .p (.int .i64 (j : Nat)))] [(130, .cells [.p (.int .i64 c.pl), .p (.int .i64 c.ps), .p (.list (c.kn.map pk)), .p (.list (c.rs.map pr)), .p (.int .i64 c.ms)] 0), (630, .map (mapK c.kn)), (240, .cells [.p (.int .i64 (p : Nat)), .p (.int .i64 rf), .p (.int .i64 rt)] 0), (2100, .arr 3 1 (intL M) true)] A [] : Sg E)) ?_ (fun mz σ hI => ?_)
                    · refine lbeg [1, 2, 3, 7, 10, 11, 12, 14, 21, 22, 24, 77, 78, 79, 201, 202, 203] (hV := ?_)
                      exact ⟨_, 0, [(holN (p : Nat) c.rs k).toNat], (holN (p : Nat) c.rs k).toNat, by omega, ⟨rfl, rfl⟩, by simp, rfl, sgE rfl (by rw [int_one hhl.1])⟩
                    obtain ⟨j, M, q, hj, hM, hM12, hnj, rfl⟩ := hI
                    repeat refine gwp_seq ?_
                    refine gwp_region ?_
                    refine v0 (k := ?_)
                    refine nil0 ?_
                    repeat refine gwp_seq ?_
                    refine cB (k1 := fun hb9 => ?_) (k0 := fun hb9 => ?_)
                    · replace hb9 := hB.h {} hb9
                      try rw [eqI] at hb9
                      repeat refine gwp_seq ?_
                      refine gwp_skip ?_
                      refine cl [1, 2, 3, 7, 10, 11, 12, 14, 21, 22, 24, 77, 78, 79, 201, 202, 203] (k := ?_)
                      repeat refine gwp_seq ?_
                      refine gwp_block ?_
                      repeat refine gwp_seq ?_
                      obtain ⟨b, hb⟩ := getE (l := bs) (k := j) (by omega)
                      have hb8 := hbs b (List.mem_of_getElem? hb)
                      obtain ⟨b, rfl⟩ : ∃ n : Nat, b = n := ⟨b.toNat, by omega⟩
                      obtain ⟨u, hu, hu8, hub⟩ := tmod_nat (b := b) hn.2.1
                      clear hub
                      refine gwp_region ?_
                      refine v1 (hc := kLk1.h {}) (k := ?_)
                      refine v0 (k := ?_)
                      refine v0 (k := ?_)
                      refine nil0 ?_
                      refine cl [1, 2, 3, 7, 10, 11, 12, 14, 21, 22, 24, 26, 77, 78, 79, 201, 202, 203] (k := ?_)
                      repeat refine gwp_seq ?_
                      refine gwp_region ?_
                      refine v0 (k := ?_)
                      refine v1 (hc := kLk1.h {}) (k := ?_)
                      refine v0 (k := ?_)
                      refine v0 (k := ?_)
                      refine v1 (hc := kLk1.h {}) (k := ?_)
                      refine v0 (k := ?_)
                      refine nil0 ?_
                      refine cl [1, 2, 3, 7, 10, 11, 12, 14, 21, 22, 24, 27, 77, 78, 79, 201, 202, 203] (k := ?_)
                      repeat refine gwp_seq ?_
                      have hMp := (wayL_head hM).2
                      have hMl := int_last (l := M) (n := (M.length : Int)) (by omega) (wayL_last hM)
                      rcases kn_or c.kn q u with ⟨hknow, hmg⟩ | hmg
                      · repeat refine gwp_seq ?_
                        refine rd ?_
                        refine d0 0 (k := ?_)
                        refine d0 1 (k := ?_)
                        refine d0 2 (k := ?_)
                        refine d1 3 (hc := by (exact intL_len _)) (k := ?_)
                        refine d1 4 (hc := kLk1.h {}) (k := ?_)
                        refine d1 5 (hc := kLk1.h {}) (k := ?_)
                        refine d0 6 (k := ?_)
                        refine d0 7 (k := ?_)
                        refine d0 8 (k := ?_)
                        refine d1 9 (hc := kLk1.h {}) (k := ?_)
                        refine d0 10 (k := ?_)
                        refine dw0 11 (k := ?_)
                        refine dw0 12 (k := ?_)
                        refine dw1 13 (hc := by (exact intL_len _)) (k := ?_)
                        refine dw1 14 (hc := kLk1.h {}) (k := ?_)
                        refine dw1 15 (hc := kLk1.h {}) (k := ?_)
                        refine dw0 16 (k := ?_)
                        refine dw0 17 (k := ?_)
                        refine dw0 18 (k := ?_)
                        refine dw0 19 (k := ?_)
                        refine d0 20 (k := ?_)
                        refine d0 21 (k := ?_)
                        refine db0 22 233 (k1 := fun hb10 => ?_) (k0 := fun hb10 => ?_)
                        · replace hb10 := hB.h {} hb10
                          try rw [eqI] at hb10
                          refine dw0 22 (k := ?_)
                          refine dw1 23 (hc := by (exact intL_len _)) (k := ?_)
                          refine dw0 24 (k := ?_)
                          refine d0 25 (k := ?_)
                          refine dz 26 [0, 0, 0, 4, 12, 30, 62, 0, 254, 511, 1023, 2047, 2047, 6143, 14335, 32767, 65535, 2047, 133119, 524287, 1048575, 2097151, 4194303, 8388607, 16777215, 33554431] (h := ?_)
                          refine de 26 (h := ?_)
                          repeat refine gwp_seq ?_
                          refine cB (k1 := fun hb11 => ?_) (k0 := fun hb11 => ?_)
                          · replace hb11 := hB.h {} hb11
                            try rw [eqI] at hb11
                            repeat refine gwp_seq ?_
                            refine gwp_region ?_
                            refine v0 (k := ?_)
                            refine v0 (k := ?_)
                            refine n1 2500 false (hc := kLk1.h {}) (k := ?_)
                            refine n1 2510 false (hc := kLk1.h {}) (k := ?_)
                            refine v0 (k := ?_)
                            refine nil0 ?_
                            refine cl [1, 2, 3, 7, 10, 11, 12, 14, 21, 22, 24, 77, 78, 79, 201, 202, 203] (k := ?_)
                            repeat refine gwp_seq ?_
                            refine gwp_region ?_
                            refine v1 (hc := kLk1.h {}) (k := ?_)
                            refine v0 (k := ?_)
                            refine nil0 ?_
                            refine lend [1, 2, 3, 7, 10, 11, 12, 14, 21, 22, 24, 77, 78, 79, 201, 202, 203] (h := ?_) (hV := ?_) (n' := bs.length - (j + 1))
                            · omega
                            first
                            | exact ⟨j + 1, M ++ [u], u, by omega, wayL_snoc hM (by assumption), by rw [List.length_append, List.length_cons, List.length_nil]; omega, rfl, sgE (by rw [List.length_append]; rfl) (by rw [int_snoc])⟩
                            | exact ⟨j + 1, M, q, by omega, hM, hM12, rfl, rfl⟩
                          · replace hb11 := hB.h {} hb11
                            try rw [eqI] at hb11
                            repeat refine gwp_seq ?_
                            refine gwp_skip ?_
                            refine cl [1, 2, 3, 7, 10, 11, 12, 14, 21, 22, 24, 77, 78, 79, 201, 202, 203] (k := ?_)
                            repeat refine gwp_seq ?_
                            refine gwp_region ?_
                            refine v1 (hc := kLk1.h {}) (k := ?_)
                            refine v0 (k := ?_)
                            refine nil0 ?_
                            refine lend [1, 2, 3, 7, 10, 11, 12, 14, 21, 22, 24, 77, 78, 79, 201, 202, 203] (h := ?_) (hV := ?_) (n' := bs.length - (j + 1))
                            · omega
                            first
                            | exact ⟨j + 1, M ++ [u], u, by omega, wayL_snoc hM (by assumption), by rw [List.length_append, List.length_cons, List.length_nil]; omega, rfl, sgE (by rw [List.length_append]; rfl) (by rw [int_snoc])⟩
                            | exact ⟨j + 1, M, q, by omega, hM, hM12, rfl, rfl⟩
                        · replace hb10 := hB.h {} hb10
                          try rw [eqI] at hb10
                          refine dx0 22 (k := ?_)
                          refine dx0 23 (k := ?_)
                          refine dx0 24 (k := ?_)
                          refine d0 25 (k := ?_)
                          refine dz 26 [0, 0, 0, 4, 12, 30, 62, 0, 254, 511, 1023, 2047, 2047, 6143, 14335, 32767, 65535, 2047, 133119, 524287, 1048575, 2097151, 4194303, 8388607, 16777215, 33554431] (h := ?_)
                          refine de 26 (h := ?_)
                          repeat refine gwp_seq ?_
                          refine cF (k := ?_)
                          repeat refine gwp_seq ?_
                          refine gwp_skip ?_
                          refine cl [1, 2, 3, 7, 10, 11, 12, 14, 21, 22, 24, 77, 78, 79, 201, 202, 203] (k := ?_)
                          repeat refine gwp_seq ?_
                          refine gwp_region ?_
                          refine v1 (hc := kLk1.h {}) (k := ?_)
                          refine v0 (k := ?_)
                          refine nil0 ?_
                          refine lend [1, 2, 3, 7, 10, 11, 12, 14, 21, 22, 24, 77, 78, 79, 201, 202, 203] (h := ?_) (hV := ?_) (n' := bs.length - (j + 1))
                          · omega
                          first
                          | exact ⟨j + 1, M ++ [u], u, by omega, wayL_snoc hM (by assumption), by rw [List.length_append, List.length_cons, List.length_nil]; omega, rfl, sgE (by rw [List.length_append]; rfl) (by rw [int_snoc])⟩
                          | exact ⟨j + 1, M, q, by omega, hM, hM12, rfl, rfl⟩
                      · repeat refine gwp_seq ?_
                        refine rd ?_
                        refine d0 0 (k := ?_)
                        refine d0 1 (k := ?_)
                        refine d0 2 (k := ?_)
                        refine d1 3 (hc := by (exact intL_len _)) (k := ?_)
                        refine d1 4 (hc := kLk1.h {}) (k := ?_)
                        refine d1 5 (hc := kLk1.h {}) (k := ?_)
                        refine d0 6 (k := ?_)
                        refine d0 7 (k := ?_)
                        refine d0 8 (k := ?_)
                        refine d1 9 (hc := kLk1.h {}) (k := ?_)
                        refine d0 10 (k := ?_)
                        refine dx0 11 (k := ?_)
                        refine dx0 12 (k := ?_)
                        refine dx0 13 (k := ?_)
                        refine dx0 14 (k := ?_)
                        refine dx0 15 (k := ?_)
                        refine dx0 16 (k := ?_)
                        refine dx0 17 (k := ?_)
                        refine dx0 18 (k := ?_)
                        refine dx0 19 (k := ?_)
                        refine d0 20 (k := ?_)
                        refine d0 21 (k := ?_)
                        refine dx0 22 (k := ?_)
                        refine dx0 23 (k := ?_)
                        refine dx0 24 (k := ?_)
                        refine d0 25 (k := ?_)
                        refine dz 26 [0, 0, 0, 4, 12, 30, 62, 0, 254, 511, 1023, 2047, 2047, 6143, 14335, 32767, 65535, 2047, 133119, 524287, 1048575, 2097151, 4194303, 8388607, 16777215, 33554431] (h := ?_)
                        refine de 26 (h := ?_)
                        repeat refine gwp_seq ?_
                        refine cF (k := ?_)
                        repeat refine gwp_seq ?_
                        refine gwp_skip ?_
                        refine cl [1, 2, 3, 7, 10, 11, 12, 14, 21, 22, 24, 77, 78, 79, 201, 202, 203] (k := ?_)
                        repeat refine gwp_seq ?_
                        refine gwp_region ?_
                        refine v1 (hc := kLk1.h {}) (k := ?_)
                        refine v0 (k := ?_)
                        refine nil0 ?_
                        refine lend [1, 2, 3, 7, 10, 11, 12, 14, 21, 22, 24, 77, 78, 79, 201, 202, 203] (h := ?_) (hV := ?_) (n' := bs.length - (j + 1))
                        · omega
                        first
                        | exact ⟨j + 1, M ++ [u], u, by omega, wayL_snoc hM (by assumption), by rw [List.length_append, List.length_cons, List.length_nil]; omega, rfl, sgE (by rw [List.length_append]; rfl) (by rw [int_snoc])⟩
                        | exact ⟨j + 1, M, q, by omega, hM, hM12, rfl, rfl⟩
                    · replace hb9 := hB.h {} hb9
                      try rw [eqI] at hb9
                      repeat refine gwp_seq ?_
                      refine gwp_exit ?_
                      repeat (first | refine gthen_exit ?_ | refine gnoGoto_exit ?_ | refine gblock_here ?_ | refine gblock_out rfl ?_)
                      refine cl [1, 2, 3, 7, 10, 11, 12, 14, 21, 22, 24, 77, 78, 79] (k := ?_)
                      repeat refine gwp_seq ?_
                      have hMp := (wayL_head hM).2
                      have hMl := int_last (l := M) (n := (M.length : Int)) (by omega) (wayL_last hM)
                      refine rd ?_
                      refine d0 0 (k := ?_)
                      refine d0 1 (k := ?_)
                      refine d1 2 (hc := by (exact intL_len _)) (k := ?_)
                      refine d1 3 (hc := kLk1.h {}) (k := ?_)
                      refine d1 4 (hc := kLk1.h {}) (k := ?_)
                      refine d0 5 (k := ?_)
                      refine d0 6 (k := ?_)
                      refine d0 7 (k := ?_)
                      refine d0 8 (k := ?_)
                      refine dz 9 [0, 0, 2, 6, 15, 31, 0, 64, 255] (h := ?_)
                      refine de 9 (h := ?_)
                      repeat refine gwp_seq ?_
                      refine cB (k1 := fun hb12 => ?_) (k0 := fun hb12 => ?_)
                      · replace hb12 := hB.h {} hb12
                        try rw [eqI] at hb12
                        repeat refine gwp_seq ?_
                        refine gwp_exit ?_
                        repeat (first | refine gthen_exit ?_ | refine gnoGoto_exit ?_ | refine gblock_here ?_ | refine gblock_out rfl ?_)
                        refine cl [1, 2, 3, 7, 10, 11, 12, 77, 78, 79] (k := ?_)
                        repeat refine gwp_seq ?_
                        refine gwp_region ?_
                        refine v1 (hc := kLk1.h {}) (k := ?_)
                        refine v0 (k := ?_)
                        refine nil0 ?_
                        refine lend [1, 2, 3, 7, 10, 11, 12, 77, 78, 79] (h := ?_) (hV := ?_) (n' := c.rs.length - (k + 1))
                        · omega
                        first
                        | exact ⟨k + 1, by omega, rfl, rfl⟩
                        | exact ⟨k + 1, by omega, rfl, sgE (by rw [fb_skip hr (by simp only; omega)]; rfl) rfl⟩
                        | exact ⟨k + 1, by omega, rfl, sgE (by rw [fb_same hr (by simp only; omega)]; rfl) rfl⟩
                      · replace hb12 := hB.h {} hb12
                        try rw [eqI] at hb12
                        repeat refine gwp_seq ?_
                        refine gwp_skip ?_
                        refine cl [1, 2, 3, 7, 10, 11, 12, 21, 22, 24, 77, 78, 79] (k := ?_)
                        repeat refine gwp_seq ?_
                        have hq : q = rf.toNat := by omega
                        subst hq
                        have hLM := (hmin M hM).1
                        have hpM := (hmin M hM).2
                        refine gwp_region ?_
                        refine v0 (k := ?_)
                        refine v0 (k := ?_)
                        refine rb 253 false (h := by (first | with_reducible rfl | exact decide_eq_false (by omega) | exact nd_f (by omega) | rfl | decide)) (k := ?_)
                        refine v0 (k := ?_)
                        refine w0 (k := ?_)
                        refine w1 (hc := by (exact intL_len _)) (k := ?_)
                        refine w0 (k := ?_)
                        refine w0 (k := ?_)
                        refine w0 (k := ?_)
                        refine rb 259 false (h := by (first | with_reducible rfl | exact decide_eq_false (by omega) | exact nd_f (by omega) | rfl | decide)) (k := ?_)
                        refine v0 (k := ?_)
                        refine nil0 ?_
                        repeat refine gwp_seq ?_
                        refine cF (k := ?_)
                        repeat refine gwp_seq ?_
                        refine gwp_skip ?_
                        refine cl [1, 2, 3, 7, 10, 11, 12, 21, 24, 77, 78, 79] (k := ?_)
                        repeat refine gwp_seq ?_
                        refine gwp_region ?_
                        refine v0 (k := ?_)
                        refine v0 (k := ?_)
                        refine v0 (k := ?_)
                        refine nil0 ?_
                        refine cl [1, 2, 3, 7, 10, 11, 12, 21, 24, 77, 78, 79, 262, 263] (k := ?_)
                        repeat refine gwp_seq ?_
                        refine gwp_block ?_
                        repeat refine gwp_seq ?_
                        refine gc_loop (fun mz σ => ∃ i : Nat, (i ≤ (pathA c (p : Nat) (k : Nat)).1.length) ∧ (i = 0 ∨ M.length ≤ (pathA c (p : Nat) (k : Nat)).1.length) ∧ (∀ j : Nat, j < i → M[j]? = (pathA c (p : Nat) (k : Nat)).1[j]?) ∧ mz = (pathA c (p : Nat) (k : Nat)).1.length - i ∧ σ = (sg [(1, .p (.int .i64 (p : Nat))), (2, .p (.list (bs.map (.int .u8)))), (3, .ref 130 0), (7, .map 630), (10, .p (.int .i64 (brkV c (p : Nat)).1)), (11, .p (.int .i64 (brkV c (p : Nat)).2)), (12, .p (.int .i64 (fbN (p : Nat) c.rs k))), (21, .p (.list (intL (pathA c (p : Nat) (k : Nat)).1))), (24, .own 2100 M.length), (77, .p (.list (c.rs.map pr))), (78, .p (.int .i64 (c.rs.length : Nat))), (79, .p (.int .i64 (k : Nat))), (262, .p (.int .i64 ((pathA c (p : Nat) (k : Nat)).1.length : Nat))), (263, .p (.int .i64 (i : Nat)))] [(130, .cells [.p (.int .i64 c.pl), .p (.int .i64 c.ps), .p (.list (c.kn.map pk)), .p (.list (c.rs.map pr)), .p (.int .i64 c.ms)] 0), (630, .map (mapK c.kn)), (2100, .arr 3 1 (intL M) true)] A [] : Sg E)) ?_ (fun mz σ hI => ?_)
                        · refine lbeg [1, 2, 3, 7, 10, 11, 12, 21, 24, 77, 78, 79, 262, 263] (hV := ?_)
                          exact ⟨_, 0, by omega, .inl rfl, fun j hj => by omega, rfl, sgE (by rw [intL_len]; rfl) rfl⟩
                        obtain ⟨i, hi, hi0, hpre, hni, rfl⟩ := hI
                        repeat refine gwp_seq ?_
                        refine gwp_region ?_
                        refine v0 (k := ?_)
                        refine nil0 ?_
                        repeat refine gwp_seq ?_
                        refine cB (k1 := fun hb13 => ?_) (k0 := fun hb13 => ?_)
                        · replace hb13 := hB.h {} hb13
                          try rw [eqI] at hb13
                          repeat refine gwp_seq ?_
                          refine gwp_skip ?_
                          refine cl [1, 2, 3, 7, 10, 11, 12, 21, 24, 77, 78, 79, 262, 263] (k := ?_)
                          repeat refine gwp_seq ?_
                          refine gwp_block ?_
                          repeat refine gwp_seq ?_
                          refine gwp_region ?_
                          refine v0 (k := ?_)
                          refine v0 (k := ?_)
                          refine nil0 ?_
                          refine cl [1, 2, 3, 7, 10, 11, 12, 21, 24, 28, 77, 78, 79, 262, 263] (k := ?_)
                          repeat refine gwp_seq ?_
                          obtain ⟨u, hLi⟩ := getE (l := (pathA c (p : Nat) (k : Nat)).1) (k := i) (by omega)
                          have hLi2 := int_at hLi
                          refine rd ?_
                          refine d0 0 (k := ?_)
                          refine d1 1 (hc := by (exact intL_len _)) (k := ?_)
                          refine d0 2 (k := ?_)
                          refine d0 3 (k := ?_)
                          refine d0 4 (k := ?_)
                          refine d0 5 (k := ?_)
                          refine db0 6 271 (k1 := fun hb14 => ?_) (k0 := fun hb14 => ?_)
                          · replace hb14 := hB.h {} hb14
                            try rw [eqI] at hb14
                            refine dx0 6 (k := ?_)
                            refine dx0 7 (k := ?_)
                            refine dx0 8 (k := ?_)
                            refine dx0 9 (k := ?_)
                            refine dx0 10 (k := ?_)
                            refine dx0 11 (k := ?_)
                            refine dx0 12 (k := ?_)
                            refine dx0 13 (k := ?_)
                            refine dx0 14 (k := ?_)
                            refine d0 15 (k := ?_)
                            refine dz 16 [0, 1, 0, 4, 15, 31, 63, 63, 255, 511, 63, 63, 3135, 7231, 16383, 32767] (h := ?_)
                            refine de 16 (h := ?_)
                            repeat refine gwp_seq ?_
                            refine cT (k := ?_)
                            repeat refine gwp_seq ?_
                            refine gwp_exit ?_
                            repeat (first | refine gthen_exit ?_ | refine gnoGoto_exit ?_ | refine gblock_here ?_ | refine gblock_out rfl ?_)
                            refine cl [1, 2, 3, 7, 10, 11, 12, 77, 78, 79] (k := ?_)
                            repeat refine gwp_seq ?_
                            refine gwp_region ?_
                            refine v1 (hc := kLk1.h {}) (k := ?_)
                            refine v0 (k := ?_)
                            refine nil0 ?_
                            refine lend [1, 2, 3, 7, 10, 11, 12, 77, 78, 79] (h := ?_) (hV := ?_) (n' := c.rs.length - (k + 1))
                            · omega
                            first
                            | exact ⟨k + 1, by omega, rfl, rfl⟩
                            | exact ⟨k + 1, by omega, rfl, sgE (by rw [fb_skip hr (by simp only; omega)]; rfl) rfl⟩
                            | exact ⟨k + 1, by omega, rfl, sgE (by rw [fb_same hr (by simp only; omega)]; rfl) rfl⟩
                          · replace hb14 := hB.h {} hb14
                            try rw [eqI] at hb14
                            obtain ⟨v, hMi⟩ := getE (l := M) (k := i) (by omega)
                            have hMi2 := int_at hMi
                            refine dw0 6 (k := ?_)
                            refine dw0 7 (k := ?_)
                            refine dw1 8 (hc := kLk1.h {}) (k := ?_)
                            refine dw0 9 (k := ?_)
                            refine dw0 10 (k := ?_)
                            refine dw0 11 (k := ?_)
                            refine dw1 12 (hc := kLk1.h {}) (k := ?_)
                            refine dw0 13 (k := ?_)
                            refine dw0 14 (k := ?_)
                            refine d0 15 (k := ?_)
                            refine dz 16 [0, 1, 0, 4, 15, 31, 63, 63, 255, 511, 63, 63, 3135, 7231, 16383, 32767] (h := ?_)
                            refine de 16 (h := ?_)
                            repeat refine gwp_seq ?_
                            refine cB (k1 := fun hb15 => ?_) (k0 := fun hb15 => ?_)
                            · replace hb15 := hB.h {} hb15
                              try rw [eqI] at hb15
                              repeat refine gwp_seq ?_
                              refine gwp_exit ?_
                              repeat (first | refine gthen_exit ?_ | refine gnoGoto_exit ?_ | refine gblock_here ?_ | refine gblock_out rfl ?_)
                              refine cl [1, 2, 3, 7, 10, 11, 12, 77, 78, 79] (k := ?_)
                              repeat refine gwp_seq ?_
                              refine gwp_region ?_
                              refine v1 (hc := kLk1.h {}) (k := ?_)
                              refine v0 (k := ?_)
                              refine nil0 ?_
                              refine lend [1, 2, 3, 7, 10, 11, 12, 77, 78, 79] (h := ?_) (hV := ?_) (n' := c.rs.length - (k + 1))
                              · omega
                              first
                              | exact ⟨k + 1, by omega, rfl, rfl⟩
                              | exact ⟨k + 1, by omega, rfl, sgE (by rw [fb_skip hr (by simp only; omega)]; rfl) rfl⟩
                              | exact ⟨k + 1, by omega, rfl, sgE (by rw [fb_same hr (by simp only; omega)]; rfl) rfl⟩
                            · replace hb15 := hB.h {} hb15
                              try rw [eqI] at hb15
                              repeat refine gwp_seq ?_
                              refine gwp_skip ?_
                              refine cl [1, 2, 3, 7, 10, 11, 12, 21, 24, 28, 77, 78, 79, 262, 263] (k := ?_)
                              repeat refine gwp_seq ?_
                              have h290 : ¬ ((v : Nat) : Int) < ((u : Nat) : Int) := by have := hpM (by omega) i u v hpre hLi hMi; omega
                              refine rd ?_
                              refine d0 0 (k := ?_)
                              refine d0 1 (k := ?_)
                              refine d1 2 (hc := kLk1.h {}) (k := ?_)
                              refine d0 3 (k := ?_)
                              refine d0 4 (k := ?_)
                              refine d0 5 (k := ?_)
                              refine d1 6 (hc := kLk1.h {}) (k := ?_)
                              refine d0 7 (k := ?_)
                              refine d0 8 (k := ?_)
                              refine dz 9 [0, 0, 3, 7, 0, 0, 48, 112, 255] (h := ?_)
                              refine de 9 (h := ?_)
                              repeat refine gwp_seq ?_
                              refine cF (k := ?_)
                              repeat refine gwp_seq ?_
                              refine gwp_skip ?_
                              refine cl [1, 2, 3, 7, 10, 11, 12, 21, 24, 77, 78, 79, 262, 263] (k := ?_)
                              repeat refine gwp_seq ?_
                              refine gwp_region ?_
                              refine v1 (hc := kLk1.h {}) (k := ?_)
                              refine v0 (k := ?_)
                              refine nil0 ?_
                              refine lend [1, 2, 3, 7, 10, 11, 12, 21, 24, 77, 78, 79, 262, 263] (h := ?_) (hV := ?_) (n' := (pathA c (p : Nat) (k : Nat)).1.length - (i + 1))
                              · omega
                              exact ⟨i + 1, by omega, .inr (by omega), pre_next hpre (hMi.trans ((congrArg some (by omega)).trans hLi.symm)), rfl, rfl⟩
                        · replace hb13 := hB.h {} hb13
                          try rw [eqI] at hb13
                          repeat refine gwp_seq ?_
                          refine gwp_exit ?_
                          repeat (first | refine gthen_exit ?_ | refine gnoGoto_exit ?_ | refine gblock_here ?_ | refine gblock_out rfl ?_)
                          refine cl [1, 2, 3, 7, 10, 11, 12, 77, 78, 79] (k := ?_)
                          repeat refine gwp_seq ?_
                          refine gwp_region ?_
                          refine v1 (hc := kLk1.h {}) (k := ?_)
                          refine v0 (k := ?_)
                          refine nil0 ?_
                          refine lend [1, 2, 3, 7, 10, 11, 12, 77, 78, 79] (h := ?_) (hV := ?_) (n' := c.rs.length - (k + 1))
                          · omega
                          first
                          | exact ⟨k + 1, by omega, rfl, rfl⟩
                          | exact ⟨k + 1, by omega, rfl, sgE (by rw [fb_skip hr (by simp only; omega)]; rfl) rfl⟩
                          | exact ⟨k + 1, by omega, rfl, sgE (by rw [fb_same hr (by simp only; omega)]; rfl) rfl⟩
                · have hLsz := pathA_le c (p : Nat) (k : Nat)
                  have hIL : (intL (pathA c (p : Nat) (k : Nat)).1).length ≤ (pathA c (p : Nat) (k : Nat)).1.length ∧ (pathA c (p : Nat) (k : Nat)).1.length ≤ (intL (pathA c (p : Nat) (k : Nat)).1).length := by rw [intL_len]; omega
                  have hw0 := (wayL_head hL).1
                  have hw1 := (wayL_head hL).2
                  have hwl := wayL_last hL
                  repeat refine gwp_seq ?_
                  refine gwp_region ?_
                  refine v0 (k := ?_)
                  refine v0 (k := ?_)
                  refine v0 (k := ?_)
                  refine pc0 (spec := w_holder c hv p hpl k (by omega)) (hent := ent15) (k := ?_)
                  refine v0 (k := ?_)
                  refine v0 (k := ?_)
                  refine v0 (k := ?_)
                  refine v0 (k := ?_)
                  refine v0 (k := ?_)
                  refine nil0 ?_
                  refine cl [1, 2, 3, 7, 10, 11, 12, 13, 14, 17, 18, 77, 78, 79] (k := ?_)
                  repeat refine gwp_seq ?_
                  refine gwp_region ?_
                  refine v0 (k := ?_)
                  refine v0 (k := ?_)
                  refine v0 (k := ?_)
                  refine v1 (hc := kLk1.h {}) (k := ?_)
                  refine pc0 (spec := x_holder c hv p hpl k (by omega)) (hent := ent15) (k := ?_)
                  refine v0 (k := ?_)
                  refine v0 (k := ?_)
                  refine v0 (k := ?_)
                  refine v0 (k := ?_)
                  refine v0 (k := ?_)
                  refine nil0 ?_
                  refine cl [1, 2, 3, 7, 10, 11, 12, 13, 14, 17, 18, 19, 20, 77, 78, 79] (k := ?_)
                  repeat refine gwp_seq ?_
                  refine gwp_region ?_
                  refine v0 (k := ?_)
                  refine v0 (k := ?_)
                  refine rb 113 false (h := by (first | with_reducible rfl | exact decide_eq_false (by omega) | exact nd_f (by omega) | rfl | decide)) (k := ?_)
                  refine v0 (k := ?_)
                  refine w0 (k := ?_)
                  refine w0 (k := ?_)
                  refine rb 116 false (h := by (first | with_reducible rfl | exact decide_eq_false (by omega) | exact nd_f (by omega) | rfl | decide)) (k := ?_)
                  refine v0 (k := ?_)
                  refine v0 (k := ?_)
                  refine w0 (k := ?_)
                  refine w0 (k := ?_)
                  refine w0 (k := ?_)
                  refine w0 (k := ?_)
                  refine rb 122 false (h := by (first | with_reducible rfl | exact decide_eq_false (by omega) | exact nd_f (by omega) | rfl | decide)) (k := ?_)
                  refine v0 (k := ?_)
                  refine nil0 ?_
                  repeat refine gwp_seq ?_
                  refine cF (k := ?_)
                  repeat refine gwp_seq ?_
                  refine gwp_skip ?_
                  refine cl [1, 2, 3, 7, 10, 11, 12, 13, 14, 17, 77, 78, 79] (k := ?_)
                  repeat refine gwp_seq ?_
                  refine gwp_region ?_
                  refine v0 (k := ?_)
                  refine v0 (k := ?_)
                  refine v0 (k := ?_)
                  refine v0 (k := ?_)
                  refine rb 127 true (h := by (first | with_reducible rfl | exact decide_eq_true (by omega) | exact nd_t (by omega) | rfl | decide)) (k := ?_)
                  refine v0 (k := ?_)
                  refine w0 (k := ?_)
                  refine w0 (k := ?_)
                  refine v0 (k := ?_)
                  refine nil0 ?_
                  repeat refine gwp_seq ?_
                  refine gwp_cutE (Z := Int) (fun z => z = (fbN (p : Nat) c.rs (k + 1))) (fun z => [(1, .p (.int .i64 (p : Nat))), (2, .p (.list (bs.map (.int .u8)))), (3, .ref 130 0), (7, .map 630), (10, .p (.int .i64 (brkV c (p : Nat)).1)), (11, .p (.int .i64 (brkV c (p : Nat)).2)), (12, .p (.int .i64 z)), (13, .p (.int .i64 (k : Nat))), (14, .ref 240 0), (17, .p (.int .i64 (holN (p : Nat) c.rs k))), (77, .p (.list (c.rs.map pr))), (78, .p (.int .i64 (c.rs.length : Nat))), (79, .p (.int .i64 (k : Nat)))]) (fun _ => [(130, .cells [.p (.int .i64 c.pl), .p (.int .i64 c.ps), .p (.list (c.kn.map pk)), .p (.list (c.rs.map pr)), .p (.int .i64 c.ms)] 0), (630, .map (mapK c.kn)), (240, .cells [.p (.int .i64 (p : Nat)), .p (.int .i64 rf), .p (.int .i64 rt)] 0)]) ?_ (fun z hz => ?_)
                  · refine cB (k1 := fun hb16 => ?_) (k0 := fun hb16 => ?_)
                    · replace hb16 := hB.h {} hb16
                      try rw [eqI] at hb16
                      repeat refine gwp_seq ?_
                      refine gwp_region ?_
                      refine v0 (k := ?_)
                      refine v0 (k := ?_)
                      refine nil0 ?_
                      first
                      | exact ⟨_, (fb_new hr rfl (by simp only; omega) (by omega)).symm, lce [1, 2, 3, 7, 10, 11, 12, 13, 14, 17, 77, 78, 79]⟩
                      | exact ⟨_, (fb_has hr (by omega)).symm, lce [1, 2, 3, 7, 10, 11, 12, 13, 14, 17, 77, 78, 79]⟩
                    · replace hb16 := hB.h {} hb16
                      try rw [eqI] at hb16
                      repeat refine gwp_seq ?_
                      refine gwp_skip ?_
                      first
                      | exact ⟨_, (fb_new hr rfl (by simp only; omega) (by omega)).symm, lce [1, 2, 3, 7, 10, 11, 12, 13, 14, 17, 77, 78, 79]⟩
                      | exact ⟨_, (fb_has hr (by omega)).symm, lce [1, 2, 3, 7, 10, 11, 12, 13, 14, 17, 77, 78, 79]⟩
                  · subst hz
                    repeat refine gwp_seq ?_
                    refine gwp_region ?_
                    refine v0 (k := ?_)
                    refine v0 (k := ?_)
                    refine v0 (k := ?_)
                    refine pc0 (spec := c_path c (by omega) (by omega) (p : Nat) (k : Nat)) (hent := ent19) (k := ?_)
                    refine v0 (k := ?_)
                    refine v0 (k := ?_)
                    refine v0 (k := ?_)
                    refine v0 (k := ?_)
                    refine v0 (k := ?_)
                    refine nil0 ?_
                    refine cl [1, 2, 3, 7, 10, 11, 12, 14, 17, 21, 22, 77, 78, 79] (k := ?_)
                    repeat refine gwp_seq ?_
                    refine gwp_region ?_
                    refine v0 (k := ?_)
                    refine v0 (k := ?_)
                    refine rb 141 false (h := by (first | with_reducible rfl | exact decide_eq_false (by omega) | exact nd_f (by omega) | rfl | decide)) (k := ?_)
                    refine v0 (k := ?_)
                    refine x0 (k := ?_)
                    refine x0 (k := ?_)
                    refine x0 (k := ?_)
                    refine x1 (k := ?_)
                    refine x1 (k := ?_)
                    refine x1 (k := ?_)
                    refine x0 (k := ?_)
                    refine x0 (k := ?_)
                    refine x1 (k := ?_)
                    refine x1 (k := ?_)
                    refine x1 (k := ?_)
                    refine x1 (k := ?_)
                    refine x0 (k := ?_)
                    refine v0 (k := ?_)
                    refine nil0 ?_
                    repeat refine gwp_seq ?_
                    refine cF (k := ?_)
                    repeat refine gwp_seq ?_
                    refine gwp_skip ?_
                    refine cl [1, 2, 3, 7, 10, 11, 12, 14, 17, 21, 22, 77, 78, 79] (k := ?_)
                    repeat refine gwp_seq ?_
                    refine gwp_region ?_
                    refine v0 (k := ?_)
                    refine v0 (k := ?_)
                    refine rb 158 true (h := by (first | with_reducible rfl | exact decide_eq_true (by omega) | exact nd_t (by omega) | rfl | decide)) (k := ?_)
                    refine nil0 ?_
                    repeat refine gwp_seq ?_
                    refine cT (k := ?_)
                    repeat refine gwp_seq ?_
                    have f161 : ¬ ((intL (pathA c (p : Nat) (k : Nat)).1).length : Int) = 0 := by rw [intL_len]; omega
                    have hL0 : (intL (pathA c (p : Nat) (k : Nat)).1)[0]? = some (.int .i64 (holN (p : Nat) c.rs k)) := by rw [int_at hw0, Int.toNat_of_nonneg hhl.1]
                    have hLl : (intL (pathA c (p : Nat) (k : Nat)).1)[(((intL (pathA c (p : Nat) (k : Nat)).1).length : Int) - 1).toNat]? = some (.int .i64 rf) := by rw [int_last (by rw [intL_len]; omega) hwl]; rw [Int.toNat_of_nonneg (by omega)]
                    refine rd ?_
                    refine d0 0 (k := ?_)
                    refine d0 1 (k := ?_)
                    refine d0 2 (k := ?_)
                    refine d0 3 (k := ?_)
                    refine dw0 4 (k := ?_)
                    refine dw1 5 (hc := kLk1.h {}) (k := ?_)
                    refine dw0 6 (k := ?_)
                    refine dw0 7 (k := ?_)
                    refine dw0 8 (k := ?_)
                    refine d0 9 (k := ?_)
                    refine d0 10 (k := ?_)
                    refine dw0 11 (k := ?_)
                    refine dw0 12 (k := ?_)
                    refine dw0 13 (k := ?_)
                    refine dw1 14 (hc := kLk1.h {}) (k := ?_)
                    refine dw1 15 (hc := kLk1.h {}) (k := ?_)
                    refine dw0 16 (k := ?_)
                    refine dw0 17 (k := ?_)
                    refine dw0 18 (k := ?_)
                    refine dw0 19 (k := ?_)
                    refine d0 20 (k := ?_)
                    refine dz 21 [0, 1, 3, 7, 15, 31, 63, 15, 255, 511, 1023, 2047, 2047, 6143, 14335, 32767, 65535, 2047, 133119, 524287, 1048575] (h := ?_)
                    refine de 21 (h := ?_)
                    repeat refine gwp_seq ?_
                    refine cF (k := ?_)
                    repeat refine gwp_seq ?_
                    refine gwp_skip ?_
                    refine cl [1, 2, 3, 7, 10, 11, 12, 14, 17, 21, 22, 77, 78, 79] (k := ?_)
                    repeat refine gwp_seq ?_
                    refine gwp_region ?_
                    refine v0 (k := ?_)
                    refine nil0 ?_
                    refine cl [1, 2, 3, 7, 10, 11, 12, 14, 17, 21, 22, 23, 77, 78, 79] (k := ?_)
                    repeat refine gwp_seq ?_
                    refine gwp_block ?_
                    repeat refine gwp_seq ?_
                    refine gc_loop (fun mz σ => ∃ i : Nat, (1 ≤ i) ∧ (i ≤ (pathA c (p : Nat) (k : Nat)).1.length) ∧ mz = (pathA c (p : Nat) (k : Nat)).1.length - i ∧ σ = (sg [(1, .p (.int .i64 (p : Nat))), (2, .p (.list (bs.map (.int .u8)))), (3, .ref 130 0), (7, .map 630), (10, .p (.int .i64 (brkV c (p : Nat)).1)), (11, .p (.int .i64 (brkV c (p : Nat)).2)), (12, .p (.int .i64 (fbN (p : Nat) c.rs (k + 1)))), (14, .ref 240 0), (17, .p (.int .i64 (holN (p : Nat) c.rs k))), (21, .p (.list (intL (pathA c (p : Nat) (k : Nat)).1))), (22, .p (.int .i64 (pathA c (p : Nat) (k : Nat)).2)), (23, .p (.int .i64 (i : Nat))), (77, .p (.list (c.rs.map pr))), (78, .p (.int .i64 (c.rs.length : Nat))), (79, .p (.int .i64 (k : Nat)))] [(130, .cells [.p (.int .i64 c.pl), .p (.int .i64 c.ps), .p (.list (c.kn.map pk)), .p (.list (c.rs.map pr)), .p (.int .i64 c.ms)] 0), (630, .map (mapK c.kn)), (240, .cells [.p (.int .i64 (p : Nat)), .p (.int .i64 rf), .p (.int .i64 rt)] 0)] A [] : Sg E)) ?_ (fun mz σ hI => ?_)
                    · refine lbeg [1, 2, 3, 7, 10, 11, 12, 14, 17, 21, 22, 23, 77, 78, 79] (hV := ?_)
                      exact ⟨_, 1, by omega, by omega, rfl, rfl⟩
                    obtain ⟨i, hi1, hi2, hni, rfl⟩ := hI
                    repeat refine gwp_seq ?_
                    refine gwp_region ?_
                    refine v0 (k := ?_)
                    refine v0 (k := ?_)
                    refine v0 (k := ?_)
                    refine v0 (k := ?_)
                    refine nil0 ?_
                    repeat refine gwp_seq ?_
                    refine cB (k1 := fun hb17 => ?_) (k0 := fun hb17 => ?_)
                    · replace hb17 := hB.h {} hb17
                      try rw [eqI] at hb17
                      repeat refine gwp_seq ?_
                      refine gwp_skip ?_
                      refine cl [1, 2, 3, 7, 10, 11, 12, 14, 17, 21, 22, 23, 77, 78, 79] (k := ?_)
                      repeat refine gwp_seq ?_
                      refine gwp_block ?_
                      repeat refine gwp_seq ?_
                      obtain ⟨u, hu⟩ := getE (l := (pathA c (p : Nat) (k : Nat)).1) (k := i - 1) (by omega)
                      obtain ⟨v, hvv⟩ := getE (l := (pathA c (p : Nat) (k : Nat)).1) (k := i) (by omega)
                      have hkn := wayL_step hL hu (by rw [show i - 1 + 1 = i by omega]; exact hvv)
                      have hu1 : (intL (pathA c (p : Nat) (k : Nat)).1)[((i : Int) - 1).toNat]? = some (.int .i64 (u : Nat)) := by rw [show ((i : Int) - 1).toNat = i - 1 by omega]; exact int_at hu
                      have hv1 := int_at hvv
                      have hmg := get_t hkn
                      clear hkn
                      refine rd ?_
                      refine d0 0 (k := ?_)
                      refine d0 1 (k := ?_)
                      refine d0 2 (k := ?_)
                      refine d1 3 (hc := kLk1.h {}) (k := ?_)
                      refine d1 4 (hc := kLk1.h {}) (k := ?_)
                      refine d0 5 (k := ?_)
                      refine d0 6 (k := ?_)
                      refine d0 7 (k := ?_)
                      refine d1 8 (hc := kLk1.h {}) (k := ?_)
                      refine d0 9 (k := ?_)
                      refine d0 10 (k := ?_)
                      refine d1 11 (hc := kLk1.h {}) (k := ?_)
                      refine d0 12 (k := ?_)
                      refine dz 13 [0, 0, 0, 4, 14, 30, 0, 0, 192, 448, 1022, 2047, 4095] (h := ?_)
                      refine de 13 (h := ?_)
                      repeat refine gwp_seq ?_
                      refine cF (k := ?_)
                      repeat refine gwp_seq ?_
                      refine gwp_skip ?_
                      refine cl [1, 2, 3, 7, 10, 11, 12, 14, 17, 21, 22, 23, 77, 78, 79] (k := ?_)
                      repeat refine gwp_seq ?_
                      refine gwp_region ?_
                      refine v0 (k := ?_)
                      refine v1 (hc := kLk1.h {}) (k := ?_)
                      refine v0 (k := ?_)
                      refine nil0 ?_
                      refine lend [1, 2, 3, 7, 10, 11, 12, 14, 17, 21, 22, 23, 77, 78, 79] (h := ?_) (hV := ?_) (n' := (pathA c (p : Nat) (k : Nat)).1.length - (i + 1))
                      · omega
                      exact ⟨i + 1, by omega, by omega, rfl, rfl⟩
                    · replace hb17 := hB.h {} hb17
                      try rw [eqI] at hb17
                      repeat refine gwp_seq ?_
                      refine gwp_exit ?_
                      repeat (first | refine gthen_exit ?_ | refine gnoGoto_exit ?_ | refine gblock_here ?_ | refine gblock_out rfl ?_)
                      refine cl [1, 2, 3, 7, 10, 11, 12, 14, 17, 21, 22, 77, 78, 79] (k := ?_)
                      repeat refine gwp_seq ?_
                      refine gwp_region ?_
                      refine v0 (k := ?_)
                      refine n1 2100 false (hc := kLk1.h {}) (k := ?_)
                      refine v0 (k := ?_)
                      refine nil0 ?_
                      refine cl [1, 2, 3, 7, 10, 11, 12, 14, 21, 22, 24, 77, 78, 79] (k := ?_)
                      repeat refine gwp_seq ?_
                      refine gwp_region ?_
                      refine v0 (k := ?_)
                      refine v0 (k := ?_)
                      refine v0 (k := ?_)
                      refine nil0 ?_
                      refine cl [1, 2, 3, 7, 10, 11, 12, 14, 21, 22, 24, 77, 78, 79, 201, 202, 203] (k := ?_)
                      repeat refine gwp_seq ?_
                      refine gwp_block ?_
                      repeat refine gwp_seq ?_
                      refine gc_loop (fun mz σ => ∃ (j : Nat) (M : List Nat) (q : Nat), (j ≤ bs.length) ∧ (wayL c.kn M (holN (p : Nat) c.rs k).toNat q) ∧ (M.length ≤ 12) ∧ mz = bs.length - j ∧ σ = (sg [(1, .p (.int .i64 (p : Nat))), (2, .p (.list (bs.map (.int .u8)))), (3, .ref 130 0), (7, .map 630), (10, .p (.int .i64 (brkV c (p : Nat)).1)), (11, .p (.int .i64 (brkV c (p : Nat)).2)), (12, .p (.int .i64 (fbN (p : Nat) c.rs (k + 1)))), (14, .ref 240 0), (21, .p (.list (intL (pathA c (p : Nat) (k : Nat)).1))), (22, .p (.int .i64 (pathA c (p : Nat) (k : Nat)).2)), (24, .own 2100 M.length), (77, .p (.list (c.rs.map pr))), (78, .p (.int .i64 (c.rs.length : Nat))), (79, .p (.int .i64 (k : Nat))), (201, .p (.list (bs.map (.int .u8)))), (202, .p (.int .i64 (bs.length : Nat))), (203, .p (.int .i64 (j : Nat)))] [(130, .cells [.p (.int .i64 c.pl), .p (.int .i64 c.ps), .p (.list (c.kn.map pk)), .p (.list (c.rs.map pr)), .p (.int .i64 c.ms)] 0), (630, .map (mapK c.kn)), (240, .cells [.p (.int .i64 (p : Nat)), .p (.int .i64 rf), .p (.int .i64 rt)] 0), (2100, .arr 3 1 (intL M) true)] A [] : Sg E)) ?_ (fun mz σ hI => ?_)
                      · refine lbeg [1, 2, 3, 7, 10, 11, 12, 14, 21, 22, 24, 77, 78, 79, 201, 202, 203] (hV := ?_)
                        exact ⟨_, 0, [(holN (p : Nat) c.rs k).toNat], (holN (p : Nat) c.rs k).toNat, by omega, ⟨rfl, rfl⟩, by simp, rfl, sgE rfl (by rw [int_one hhl.1])⟩
                      obtain ⟨j, M, q, hj, hM, hM12, hnj, rfl⟩ := hI
                      repeat refine gwp_seq ?_
                      refine gwp_region ?_
                      refine v0 (k := ?_)
                      refine nil0 ?_
                      repeat refine gwp_seq ?_
                      refine cB (k1 := fun hb18 => ?_) (k0 := fun hb18 => ?_)
                      · replace hb18 := hB.h {} hb18
                        try rw [eqI] at hb18
                        repeat refine gwp_seq ?_
                        refine gwp_skip ?_
                        refine cl [1, 2, 3, 7, 10, 11, 12, 14, 21, 22, 24, 77, 78, 79, 201, 202, 203] (k := ?_)
                        repeat refine gwp_seq ?_
                        refine gwp_block ?_
                        repeat refine gwp_seq ?_
                        obtain ⟨b, hb⟩ := getE (l := bs) (k := j) (by omega)
                        have hb8 := hbs b (List.mem_of_getElem? hb)
                        obtain ⟨b, rfl⟩ : ∃ n : Nat, b = n := ⟨b.toNat, by omega⟩
                        obtain ⟨u, hu, hu8, hub⟩ := tmod_nat (b := b) hn.2.1
                        clear hub
                        refine gwp_region ?_
                        refine v1 (hc := kLk1.h {}) (k := ?_)
                        refine v0 (k := ?_)
                        refine v0 (k := ?_)
                        refine nil0 ?_
                        refine cl [1, 2, 3, 7, 10, 11, 12, 14, 21, 22, 24, 26, 77, 78, 79, 201, 202, 203] (k := ?_)
                        repeat refine gwp_seq ?_
                        refine gwp_region ?_
                        refine v0 (k := ?_)
                        refine v1 (hc := kLk1.h {}) (k := ?_)
                        refine v0 (k := ?_)
                        refine v0 (k := ?_)
                        refine v1 (hc := kLk1.h {}) (k := ?_)
                        refine v0 (k := ?_)
                        refine nil0 ?_
                        refine cl [1, 2, 3, 7, 10, 11, 12, 14, 21, 22, 24, 27, 77, 78, 79, 201, 202, 203] (k := ?_)
                        repeat refine gwp_seq ?_
                        have hMp := (wayL_head hM).2
                        have hMl := int_last (l := M) (n := (M.length : Int)) (by omega) (wayL_last hM)
                        rcases kn_or c.kn q u with ⟨hknow, hmg⟩ | hmg
                        · repeat refine gwp_seq ?_
                          refine rd ?_
                          refine d0 0 (k := ?_)
                          refine d0 1 (k := ?_)
                          refine d0 2 (k := ?_)
                          refine d1 3 (hc := by (exact intL_len _)) (k := ?_)
                          refine d1 4 (hc := kLk1.h {}) (k := ?_)
                          refine d1 5 (hc := kLk1.h {}) (k := ?_)
                          refine d0 6 (k := ?_)
                          refine d0 7 (k := ?_)
                          refine d0 8 (k := ?_)
                          refine d1 9 (hc := kLk1.h {}) (k := ?_)
                          refine d0 10 (k := ?_)
                          refine dw0 11 (k := ?_)
                          refine dw0 12 (k := ?_)
                          refine dw1 13 (hc := by (exact intL_len _)) (k := ?_)
                          refine dw1 14 (hc := kLk1.h {}) (k := ?_)
                          refine dw1 15 (hc := kLk1.h {}) (k := ?_)
                          refine dw0 16 (k := ?_)
                          refine dw0 17 (k := ?_)
                          refine dw0 18 (k := ?_)
                          refine dw0 19 (k := ?_)
                          refine d0 20 (k := ?_)
                          refine d0 21 (k := ?_)
                          refine db0 22 233 (k1 := fun hb19 => ?_) (k0 := fun hb19 => ?_)
                          · replace hb19 := hB.h {} hb19
                            try rw [eqI] at hb19
                            refine dw0 22 (k := ?_)
                            refine dw1 23 (hc := by (exact intL_len _)) (k := ?_)
                            refine dw0 24 (k := ?_)
                            refine d0 25 (k := ?_)
                            refine dz 26 [0, 0, 0, 4, 12, 30, 62, 0, 254, 511, 1023, 2047, 2047, 6143, 14335, 32767, 65535, 2047, 133119, 524287, 1048575, 2097151, 4194303, 8388607, 16777215, 33554431] (h := ?_)
                            refine de 26 (h := ?_)
                            repeat refine gwp_seq ?_
                            refine cB (k1 := fun hb20 => ?_) (k0 := fun hb20 => ?_)
                            · replace hb20 := hB.h {} hb20
                              try rw [eqI] at hb20
                              repeat refine gwp_seq ?_
                              refine gwp_region ?_
                              refine v0 (k := ?_)
                              refine v0 (k := ?_)
                              refine n1 2500 false (hc := kLk1.h {}) (k := ?_)
                              refine n1 2510 false (hc := kLk1.h {}) (k := ?_)
                              refine v0 (k := ?_)
                              refine nil0 ?_
                              refine cl [1, 2, 3, 7, 10, 11, 12, 14, 21, 22, 24, 77, 78, 79, 201, 202, 203] (k := ?_)
                              repeat refine gwp_seq ?_
                              refine gwp_region ?_
                              refine v1 (hc := kLk1.h {}) (k := ?_)
                              refine v0 (k := ?_)
                              refine nil0 ?_
                              refine lend [1, 2, 3, 7, 10, 11, 12, 14, 21, 22, 24, 77, 78, 79, 201, 202, 203] (h := ?_) (hV := ?_) (n' := bs.length - (j + 1))
                              · omega
                              first
                              | exact ⟨j + 1, M ++ [u], u, by omega, wayL_snoc hM (by assumption), by rw [List.length_append, List.length_cons, List.length_nil]; omega, rfl, sgE (by rw [List.length_append]; rfl) (by rw [int_snoc])⟩
                              | exact ⟨j + 1, M, q, by omega, hM, hM12, rfl, rfl⟩
                            · replace hb20 := hB.h {} hb20
                              try rw [eqI] at hb20
                              repeat refine gwp_seq ?_
                              refine gwp_skip ?_
                              refine cl [1, 2, 3, 7, 10, 11, 12, 14, 21, 22, 24, 77, 78, 79, 201, 202, 203] (k := ?_)
                              repeat refine gwp_seq ?_
                              refine gwp_region ?_
                              refine v1 (hc := kLk1.h {}) (k := ?_)
                              refine v0 (k := ?_)
                              refine nil0 ?_
                              refine lend [1, 2, 3, 7, 10, 11, 12, 14, 21, 22, 24, 77, 78, 79, 201, 202, 203] (h := ?_) (hV := ?_) (n' := bs.length - (j + 1))
                              · omega
                              first
                              | exact ⟨j + 1, M ++ [u], u, by omega, wayL_snoc hM (by assumption), by rw [List.length_append, List.length_cons, List.length_nil]; omega, rfl, sgE (by rw [List.length_append]; rfl) (by rw [int_snoc])⟩
                              | exact ⟨j + 1, M, q, by omega, hM, hM12, rfl, rfl⟩
                          · replace hb19 := hB.h {} hb19
                            try rw [eqI] at hb19
                            refine dx0 22 (k := ?_)
                            refine dx0 23 (k := ?_)
                            refine dx0 24 (k := ?_)
                            refine d0 25 (k := ?_)
                            refine dz 26 [0, 0, 0, 4, 12, 30, 62, 0, 254, 511, 1023, 2047, 2047, 6143, 14335, 32767, 65535, 2047, 133119, 524287, 1048575, 2097151, 4194303, 8388607, 16777215, 33554431] (h := ?_)
                            refine de 26 (h := ?_)
                            repeat refine gwp_seq ?_
                            refine cF (k := ?_)
                            repeat refine gwp_seq ?_
                            refine gwp_skip ?_
                            refine cl [1, 2, 3, 7, 10, 11, 12, 14, 21, 22, 24, 77, 78, 79, 201, 202, 203] (k := ?_)
                            repeat refine gwp_seq ?_
                            refine gwp_region ?_
                            refine v1 (hc := kLk1.h {}) (k := ?_)
                            refine v0 (k := ?_)
                            refine nil0 ?_
                            refine lend [1, 2, 3, 7, 10, 11, 12, 14, 21, 22, 24, 77, 78, 79, 201, 202, 203] (h := ?_) (hV := ?_) (n' := bs.length - (j + 1))
                            · omega
                            first
                            | exact ⟨j + 1, M ++ [u], u, by omega, wayL_snoc hM (by assumption), by rw [List.length_append, List.length_cons, List.length_nil]; omega, rfl, sgE (by rw [List.length_append]; rfl) (by rw [int_snoc])⟩
                            | exact ⟨j + 1, M, q, by omega, hM, hM12, rfl, rfl⟩
                        · repeat refine gwp_seq ?_
                          refine rd ?_
                          refine d0 0 (k := ?_)
                          refine d0 1 (k := ?_)
                          refine d0 2 (k := ?_)
                          refine d1 3 (hc := by (exact intL_len _)) (k := ?_)
                          refine d1 4 (hc := kLk1.h {}) (k := ?_)
                          refine d1 5 (hc := kLk1.h {}) (k := ?_)
                          refine d0 6 (k := ?_)
                          refine d0 7 (k := ?_)
                          refine d0 8 (k := ?_)
                          refine d1 9 (hc := kLk1.h {}) (k := ?_)
                          refine d0 10 (k := ?_)
                          refine dx0 11 (k := ?_)
                          refine dx0 12 (k := ?_)
                          refine dx0 13 (k := ?_)
                          refine dx0 14 (k := ?_)
                          refine dx0 15 (k := ?_)
                          refine dx0 16 (k := ?_)
                          refine dx0 17 (k := ?_)
                          refine dx0 18 (k := ?_)
                          refine dx0 19 (k := ?_)
                          refine d0 20 (k := ?_)
                          refine d0 21 (k := ?_)
                          refine dx0 22 (k := ?_)
                          refine dx0 23 (k := ?_)
                          refine dx0 24 (k := ?_)
                          refine d0 25 (k := ?_)
                          refine dz 26 [0, 0, 0, 4, 12, 30, 62, 0, 254, 511, 1023, 2047, 2047, 6143, 14335, 32767, 65535, 2047, 133119, 524287, 1048575, 2097151, 4194303, 8388607, 16777215, 33554431] (h := ?_)
                          refine de 26 (h := ?_)
                          repeat refine gwp_seq ?_
                          refine cF (k := ?_)
                          repeat refine gwp_seq ?_
                          refine gwp_skip ?_
                          refine cl [1, 2, 3, 7, 10, 11, 12, 14, 21, 22, 24, 77, 78, 79, 201, 202, 203] (k := ?_)
                          repeat refine gwp_seq ?_
                          refine gwp_region ?_
                          refine v1 (hc := kLk1.h {}) (k := ?_)
                          refine v0 (k := ?_)
                          refine nil0 ?_
                          refine lend [1, 2, 3, 7, 10, 11, 12, 14, 21, 22, 24, 77, 78, 79, 201, 202, 203] (h := ?_) (hV := ?_) (n' := bs.length - (j + 1))
                          · omega
                          first
                          | exact ⟨j + 1, M ++ [u], u, by omega, wayL_snoc hM (by assumption), by rw [List.length_append, List.length_cons, List.length_nil]; omega, rfl, sgE (by rw [List.length_append]; rfl) (by rw [int_snoc])⟩
                          | exact ⟨j + 1, M, q, by omega, hM, hM12, rfl, rfl⟩
                      · replace hb18 := hB.h {} hb18
                        try rw [eqI] at hb18
                        repeat refine gwp_seq ?_
                        refine gwp_exit ?_
                        repeat (first | refine gthen_exit ?_ | refine gnoGoto_exit ?_ | refine gblock_here ?_ | refine gblock_out rfl ?_)
                        refine cl [1, 2, 3, 7, 10, 11, 12, 14, 21, 22, 24, 77, 78, 79] (k := ?_)
                        repeat refine gwp_seq ?_
                        have hMp := (wayL_head hM).2
                        have hMl := int_last (l := M) (n := (M.length : Int)) (by omega) (wayL_last hM)
                        refine rd ?_
                        refine d0 0 (k := ?_)
                        refine d0 1 (k := ?_)
                        refine d1 2 (hc := by (exact intL_len _)) (k := ?_)
                        refine d1 3 (hc := kLk1.h {}) (k := ?_)
                        refine d1 4 (hc := kLk1.h {}) (k := ?_)
                        refine d0 5 (k := ?_)
                        refine d0 6 (k := ?_)
                        refine d0 7 (k := ?_)
                        refine d0 8 (k := ?_)
                        refine dz 9 [0, 0, 2, 6, 15, 31, 0, 64, 255] (h := ?_)
                        refine de 9 (h := ?_)
                        repeat refine gwp_seq ?_
                        refine cB (k1 := fun hb21 => ?_) (k0 := fun hb21 => ?_)
                        · replace hb21 := hB.h {} hb21
                          try rw [eqI] at hb21
                          repeat refine gwp_seq ?_
                          refine gwp_exit ?_
                          repeat (first | refine gthen_exit ?_ | refine gnoGoto_exit ?_ | refine gblock_here ?_ | refine gblock_out rfl ?_)
                          refine cl [1, 2, 3, 7, 10, 11, 12, 77, 78, 79] (k := ?_)
                          repeat refine gwp_seq ?_
                          refine gwp_region ?_
                          refine v1 (hc := kLk1.h {}) (k := ?_)
                          refine v0 (k := ?_)
                          refine nil0 ?_
                          refine lend [1, 2, 3, 7, 10, 11, 12, 77, 78, 79] (h := ?_) (hV := ?_) (n' := c.rs.length - (k + 1))
                          · omega
                          first
                          | exact ⟨k + 1, by omega, rfl, rfl⟩
                          | exact ⟨k + 1, by omega, rfl, sgE (by rw [fb_skip hr (by simp only; omega)]; rfl) rfl⟩
                          | exact ⟨k + 1, by omega, rfl, sgE (by rw [fb_same hr (by simp only; omega)]; rfl) rfl⟩
                        · replace hb21 := hB.h {} hb21
                          try rw [eqI] at hb21
                          repeat refine gwp_seq ?_
                          refine gwp_skip ?_
                          refine cl [1, 2, 3, 7, 10, 11, 12, 21, 22, 24, 77, 78, 79] (k := ?_)
                          repeat refine gwp_seq ?_
                          have hq : q = rf.toNat := by omega
                          subst hq
                          have hLM := (hmin M hM).1
                          have hpM := (hmin M hM).2
                          refine gwp_region ?_
                          refine v0 (k := ?_)
                          refine v0 (k := ?_)
                          refine rb 253 false (h := by (first | with_reducible rfl | exact decide_eq_false (by omega) | exact nd_f (by omega) | rfl | decide)) (k := ?_)
                          refine v0 (k := ?_)
                          refine w0 (k := ?_)
                          refine w1 (hc := by (exact intL_len _)) (k := ?_)
                          refine w0 (k := ?_)
                          refine w0 (k := ?_)
                          refine w0 (k := ?_)
                          refine rb 259 false (h := by (first | with_reducible rfl | exact decide_eq_false (by omega) | exact nd_f (by omega) | rfl | decide)) (k := ?_)
                          refine v0 (k := ?_)
                          refine nil0 ?_
                          repeat refine gwp_seq ?_
                          refine cF (k := ?_)
                          repeat refine gwp_seq ?_
                          refine gwp_skip ?_
                          refine cl [1, 2, 3, 7, 10, 11, 12, 21, 24, 77, 78, 79] (k := ?_)
                          repeat refine gwp_seq ?_
                          refine gwp_region ?_
                          refine v0 (k := ?_)
                          refine v0 (k := ?_)
                          refine v0 (k := ?_)
                          refine nil0 ?_
                          refine cl [1, 2, 3, 7, 10, 11, 12, 21, 24, 77, 78, 79, 262, 263] (k := ?_)
                          repeat refine gwp_seq ?_
                          refine gwp_block ?_
                          repeat refine gwp_seq ?_
                          refine gc_loop (fun mz σ => ∃ i : Nat, (i ≤ (pathA c (p : Nat) (k : Nat)).1.length) ∧ (i = 0 ∨ M.length ≤ (pathA c (p : Nat) (k : Nat)).1.length) ∧ (∀ j : Nat, j < i → M[j]? = (pathA c (p : Nat) (k : Nat)).1[j]?) ∧ mz = (pathA c (p : Nat) (k : Nat)).1.length - i ∧ σ = (sg [(1, .p (.int .i64 (p : Nat))), (2, .p (.list (bs.map (.int .u8)))), (3, .ref 130 0), (7, .map 630), (10, .p (.int .i64 (brkV c (p : Nat)).1)), (11, .p (.int .i64 (brkV c (p : Nat)).2)), (12, .p (.int .i64 (fbN (p : Nat) c.rs (k + 1)))), (21, .p (.list (intL (pathA c (p : Nat) (k : Nat)).1))), (24, .own 2100 M.length), (77, .p (.list (c.rs.map pr))), (78, .p (.int .i64 (c.rs.length : Nat))), (79, .p (.int .i64 (k : Nat))), (262, .p (.int .i64 ((pathA c (p : Nat) (k : Nat)).1.length : Nat))), (263, .p (.int .i64 (i : Nat)))] [(130, .cells [.p (.int .i64 c.pl), .p (.int .i64 c.ps), .p (.list (c.kn.map pk)), .p (.list (c.rs.map pr)), .p (.int .i64 c.ms)] 0), (630, .map (mapK c.kn)), (2100, .arr 3 1 (intL M) true)] A [] : Sg E)) ?_ (fun mz σ hI => ?_)
                          · refine lbeg [1, 2, 3, 7, 10, 11, 12, 21, 24, 77, 78, 79, 262, 263] (hV := ?_)
                            exact ⟨_, 0, by omega, .inl rfl, fun j hj => by omega, rfl, sgE (by rw [intL_len]; rfl) rfl⟩
                          obtain ⟨i, hi, hi0, hpre, hni, rfl⟩ := hI
                          repeat refine gwp_seq ?_
                          refine gwp_region ?_
                          refine v0 (k := ?_)
                          refine nil0 ?_
                          repeat refine gwp_seq ?_
                          refine cB (k1 := fun hb22 => ?_) (k0 := fun hb22 => ?_)
                          · replace hb22 := hB.h {} hb22
                            try rw [eqI] at hb22
                            repeat refine gwp_seq ?_
                            refine gwp_skip ?_
                            refine cl [1, 2, 3, 7, 10, 11, 12, 21, 24, 77, 78, 79, 262, 263] (k := ?_)
                            repeat refine gwp_seq ?_
                            refine gwp_block ?_
                            repeat refine gwp_seq ?_
                            refine gwp_region ?_
                            refine v0 (k := ?_)
                            refine v0 (k := ?_)
                            refine nil0 ?_
                            refine cl [1, 2, 3, 7, 10, 11, 12, 21, 24, 28, 77, 78, 79, 262, 263] (k := ?_)
                            repeat refine gwp_seq ?_
                            obtain ⟨u, hLi⟩ := getE (l := (pathA c (p : Nat) (k : Nat)).1) (k := i) (by omega)
                            have hLi2 := int_at hLi
                            refine rd ?_
                            refine d0 0 (k := ?_)
                            refine d1 1 (hc := by (exact intL_len _)) (k := ?_)
                            refine d0 2 (k := ?_)
                            refine d0 3 (k := ?_)
                            refine d0 4 (k := ?_)
                            refine d0 5 (k := ?_)
                            refine db0 6 271 (k1 := fun hb23 => ?_) (k0 := fun hb23 => ?_)
                            · replace hb23 := hB.h {} hb23
                              try rw [eqI] at hb23
                              refine dx0 6 (k := ?_)
                              refine dx0 7 (k := ?_)
                              refine dx0 8 (k := ?_)
                              refine dx0 9 (k := ?_)
                              refine dx0 10 (k := ?_)
                              refine dx0 11 (k := ?_)
                              refine dx0 12 (k := ?_)
                              refine dx0 13 (k := ?_)
                              refine dx0 14 (k := ?_)
                              refine d0 15 (k := ?_)
                              refine dz 16 [0, 1, 0, 4, 15, 31, 63, 63, 255, 511, 63, 63, 3135, 7231, 16383, 32767] (h := ?_)
                              refine de 16 (h := ?_)
                              repeat refine gwp_seq ?_
                              refine cT (k := ?_)
                              repeat refine gwp_seq ?_
                              refine gwp_exit ?_
                              repeat (first | refine gthen_exit ?_ | refine gnoGoto_exit ?_ | refine gblock_here ?_ | refine gblock_out rfl ?_)
                              refine cl [1, 2, 3, 7, 10, 11, 12, 77, 78, 79] (k := ?_)
                              repeat refine gwp_seq ?_
                              refine gwp_region ?_
                              refine v1 (hc := kLk1.h {}) (k := ?_)
                              refine v0 (k := ?_)
                              refine nil0 ?_
                              refine lend [1, 2, 3, 7, 10, 11, 12, 77, 78, 79] (h := ?_) (hV := ?_) (n' := c.rs.length - (k + 1))
                              · omega
                              first
                              | exact ⟨k + 1, by omega, rfl, rfl⟩
                              | exact ⟨k + 1, by omega, rfl, sgE (by rw [fb_skip hr (by simp only; omega)]; rfl) rfl⟩
                              | exact ⟨k + 1, by omega, rfl, sgE (by rw [fb_same hr (by simp only; omega)]; rfl) rfl⟩
                            · replace hb23 := hB.h {} hb23
                              try rw [eqI] at hb23
                              obtain ⟨v, hMi⟩ := getE (l := M) (k := i) (by omega)
                              have hMi2 := int_at hMi
                              refine dw0 6 (k := ?_)
                              refine dw0 7 (k := ?_)
                              refine dw1 8 (hc := kLk1.h {}) (k := ?_)
                              refine dw0 9 (k := ?_)
                              refine dw0 10 (k := ?_)
                              refine dw0 11 (k := ?_)
                              refine dw1 12 (hc := kLk1.h {}) (k := ?_)
                              refine dw0 13 (k := ?_)
                              refine dw0 14 (k := ?_)
                              refine d0 15 (k := ?_)
                              refine dz 16 [0, 1, 0, 4, 15, 31, 63, 63, 255, 511, 63, 63, 3135, 7231, 16383, 32767] (h := ?_)
                              refine de 16 (h := ?_)
                              repeat refine gwp_seq ?_
                              refine cB (k1 := fun hb24 => ?_) (k0 := fun hb24 => ?_)
                              · replace hb24 := hB.h {} hb24
                                try rw [eqI] at hb24
                                repeat refine gwp_seq ?_
                                refine gwp_exit ?_
                                repeat (first | refine gthen_exit ?_ | refine gnoGoto_exit ?_ | refine gblock_here ?_ | refine gblock_out rfl ?_)
                                refine cl [1, 2, 3, 7, 10, 11, 12, 77, 78, 79] (k := ?_)
                                repeat refine gwp_seq ?_
                                refine gwp_region ?_
                                refine v1 (hc := kLk1.h {}) (k := ?_)
                                refine v0 (k := ?_)
                                refine nil0 ?_
                                refine lend [1, 2, 3, 7, 10, 11, 12, 77, 78, 79] (h := ?_) (hV := ?_) (n' := c.rs.length - (k + 1))
                                · omega
                                first
                                | exact ⟨k + 1, by omega, rfl, rfl⟩
                                | exact ⟨k + 1, by omega, rfl, sgE (by rw [fb_skip hr (by simp only; omega)]; rfl) rfl⟩
                                | exact ⟨k + 1, by omega, rfl, sgE (by rw [fb_same hr (by simp only; omega)]; rfl) rfl⟩
                              · replace hb24 := hB.h {} hb24
                                try rw [eqI] at hb24
                                repeat refine gwp_seq ?_
                                refine gwp_skip ?_
                                refine cl [1, 2, 3, 7, 10, 11, 12, 21, 24, 28, 77, 78, 79, 262, 263] (k := ?_)
                                repeat refine gwp_seq ?_
                                have h290 : ¬ ((v : Nat) : Int) < ((u : Nat) : Int) := by have := hpM (by omega) i u v hpre hLi hMi; omega
                                refine rd ?_
                                refine d0 0 (k := ?_)
                                refine d0 1 (k := ?_)
                                refine d1 2 (hc := kLk1.h {}) (k := ?_)
                                refine d0 3 (k := ?_)
                                refine d0 4 (k := ?_)
                                refine d0 5 (k := ?_)
                                refine d1 6 (hc := kLk1.h {}) (k := ?_)
                                refine d0 7 (k := ?_)
                                refine d0 8 (k := ?_)
                                refine dz 9 [0, 0, 3, 7, 0, 0, 48, 112, 255] (h := ?_)
                                refine de 9 (h := ?_)
                                repeat refine gwp_seq ?_
                                refine cF (k := ?_)
                                repeat refine gwp_seq ?_
                                refine gwp_skip ?_
                                refine cl [1, 2, 3, 7, 10, 11, 12, 21, 24, 77, 78, 79, 262, 263] (k := ?_)
                                repeat refine gwp_seq ?_
                                refine gwp_region ?_
                                refine v1 (hc := kLk1.h {}) (k := ?_)
                                refine v0 (k := ?_)
                                refine nil0 ?_
                                refine lend [1, 2, 3, 7, 10, 11, 12, 21, 24, 77, 78, 79, 262, 263] (h := ?_) (hV := ?_) (n' := (pathA c (p : Nat) (k : Nat)).1.length - (i + 1))
                                · omega
                                exact ⟨i + 1, by omega, .inr (by omega), pre_next hpre (hMi.trans ((congrArg some (by omega)).trans hLi.symm)), rfl, rfl⟩
                          · replace hb22 := hB.h {} hb22
                            try rw [eqI] at hb22
                            repeat refine gwp_seq ?_
                            refine gwp_exit ?_
                            repeat (first | refine gthen_exit ?_ | refine gnoGoto_exit ?_ | refine gblock_here ?_ | refine gblock_out rfl ?_)
                            refine cl [1, 2, 3, 7, 10, 11, 12, 77, 78, 79] (k := ?_)
                            repeat refine gwp_seq ?_
                            refine gwp_region ?_
                            refine v1 (hc := kLk1.h {}) (k := ?_)
                            refine v0 (k := ?_)
                            refine nil0 ?_
                            refine lend [1, 2, 3, 7, 10, 11, 12, 77, 78, 79] (h := ?_) (hV := ?_) (n' := c.rs.length - (k + 1))
                            · omega
                            first
                            | exact ⟨k + 1, by omega, rfl, rfl⟩
                            | exact ⟨k + 1, by omega, rfl, sgE (by rw [fb_skip hr (by simp only; omega)]; rfl) rfl⟩
                            | exact ⟨k + 1, by omega, rfl, sgE (by rw [fb_same hr (by simp only; omega)]; rfl) rfl⟩
                · have hLe0 : ((intL (pathA c (p : Nat) (k : Nat)).1).length : Int) ≤ 0 := by rw [hLe]; simp [intL]
                  clear hLe
                  repeat refine gwp_seq ?_
                  refine gwp_region ?_
                  refine v0 (k := ?_)
                  refine v0 (k := ?_)
                  refine v0 (k := ?_)
                  refine pc0 (spec := w_holder c hv p hpl k (by omega)) (hent := ent15) (k := ?_)
                  refine v0 (k := ?_)
                  refine v0 (k := ?_)
                  refine v0 (k := ?_)
                  refine v0 (k := ?_)
                  refine v0 (k := ?_)
                  refine nil0 ?_
                  refine cl [1, 2, 3, 7, 10, 11, 12, 13, 14, 17, 18, 77, 78, 79] (k := ?_)
                  repeat refine gwp_seq ?_
                  refine gwp_region ?_
                  refine v0 (k := ?_)
                  refine v0 (k := ?_)
                  refine v0 (k := ?_)
                  refine v1 (hc := kLk1.h {}) (k := ?_)
                  refine pc0 (spec := x_holder c hv p hpl k (by omega)) (hent := ent15) (k := ?_)
                  refine v0 (k := ?_)
                  refine v0 (k := ?_)
                  refine v0 (k := ?_)
                  refine v0 (k := ?_)
                  refine v0 (k := ?_)
                  refine nil0 ?_
                  refine cl [1, 2, 3, 7, 10, 11, 12, 13, 14, 17, 18, 19, 20, 77, 78, 79] (k := ?_)
                  repeat refine gwp_seq ?_
                  refine gwp_region ?_
                  refine v0 (k := ?_)
                  refine v0 (k := ?_)
                  refine rb 113 false (h := by (first | with_reducible rfl | exact decide_eq_false (by omega) | exact nd_f (by omega) | rfl | decide)) (k := ?_)
                  refine v0 (k := ?_)
                  refine w0 (k := ?_)
                  refine w0 (k := ?_)
                  refine rb 116 false (h := by (first | with_reducible rfl | exact decide_eq_false (by omega) | exact nd_f (by omega) | rfl | decide)) (k := ?_)
                  refine v0 (k := ?_)
                  refine v0 (k := ?_)
                  refine w0 (k := ?_)
                  refine w0 (k := ?_)
                  refine w0 (k := ?_)
                  refine w0 (k := ?_)
                  refine rb 122 false (h := by (first | with_reducible rfl | exact decide_eq_false (by omega) | exact nd_f (by omega) | rfl | decide)) (k := ?_)
                  refine v0 (k := ?_)
                  refine nil0 ?_
                  repeat refine gwp_seq ?_
                  refine cF (k := ?_)
                  repeat refine gwp_seq ?_
                  refine gwp_skip ?_
                  refine cl [1, 2, 3, 7, 10, 11, 12, 13, 14, 17, 77, 78, 79] (k := ?_)
                  repeat refine gwp_seq ?_
                  refine gwp_region ?_
                  refine v0 (k := ?_)
                  refine v0 (k := ?_)
                  refine v0 (k := ?_)
                  refine v0 (k := ?_)
                  refine rb 127 true (h := by (first | with_reducible rfl | exact decide_eq_true (by omega) | exact nd_t (by omega) | rfl | decide)) (k := ?_)
                  refine v0 (k := ?_)
                  refine w0 (k := ?_)
                  refine w0 (k := ?_)
                  refine v0 (k := ?_)
                  refine nil0 ?_
                  repeat refine gwp_seq ?_
                  refine gwp_cutE (Z := Int) (fun z => z = (fbN (p : Nat) c.rs (k + 1))) (fun z => [(1, .p (.int .i64 (p : Nat))), (2, .p (.list (bs.map (.int .u8)))), (3, .ref 130 0), (7, .map 630), (10, .p (.int .i64 (brkV c (p : Nat)).1)), (11, .p (.int .i64 (brkV c (p : Nat)).2)), (12, .p (.int .i64 z)), (13, .p (.int .i64 (k : Nat))), (14, .ref 240 0), (17, .p (.int .i64 (holN (p : Nat) c.rs k))), (77, .p (.list (c.rs.map pr))), (78, .p (.int .i64 (c.rs.length : Nat))), (79, .p (.int .i64 (k : Nat)))]) (fun _ => [(130, .cells [.p (.int .i64 c.pl), .p (.int .i64 c.ps), .p (.list (c.kn.map pk)), .p (.list (c.rs.map pr)), .p (.int .i64 c.ms)] 0), (630, .map (mapK c.kn)), (240, .cells [.p (.int .i64 (p : Nat)), .p (.int .i64 rf), .p (.int .i64 rt)] 0)]) ?_ (fun z hz => ?_)
                  · refine cB (k1 := fun hb25 => ?_) (k0 := fun hb25 => ?_)
                    · replace hb25 := hB.h {} hb25
                      try rw [eqI] at hb25
                      repeat refine gwp_seq ?_
                      refine gwp_region ?_
                      refine v0 (k := ?_)
                      refine v0 (k := ?_)
                      refine nil0 ?_
                      first
                      | exact ⟨_, (fb_new hr rfl (by simp only; omega) (by omega)).symm, lce [1, 2, 3, 7, 10, 11, 12, 13, 14, 17, 77, 78, 79]⟩
                      | exact ⟨_, (fb_has hr (by omega)).symm, lce [1, 2, 3, 7, 10, 11, 12, 13, 14, 17, 77, 78, 79]⟩
                    · replace hb25 := hB.h {} hb25
                      try rw [eqI] at hb25
                      repeat refine gwp_seq ?_
                      refine gwp_skip ?_
                      first
                      | exact ⟨_, (fb_new hr rfl (by simp only; omega) (by omega)).symm, lce [1, 2, 3, 7, 10, 11, 12, 13, 14, 17, 77, 78, 79]⟩
                      | exact ⟨_, (fb_has hr (by omega)).symm, lce [1, 2, 3, 7, 10, 11, 12, 13, 14, 17, 77, 78, 79]⟩
                  · subst hz
                    repeat refine gwp_seq ?_
                    refine gwp_region ?_
                    refine v0 (k := ?_)
                    refine v0 (k := ?_)
                    refine v0 (k := ?_)
                    refine pc0 (spec := c_path c (by omega) (by omega) (p : Nat) (k : Nat)) (hent := ent19) (k := ?_)
                    refine v0 (k := ?_)
                    refine v0 (k := ?_)
                    refine v0 (k := ?_)
                    refine v0 (k := ?_)
                    refine v0 (k := ?_)
                    refine nil0 ?_
                    refine cl [1, 2, 3, 7, 10, 11, 12, 14, 17, 21, 22, 77, 78, 79] (k := ?_)
                    repeat refine gwp_seq ?_
                    refine gwp_region ?_
                    refine v0 (k := ?_)
                    refine v0 (k := ?_)
                    refine rb 141 true (h := by (first | with_reducible rfl | exact decide_eq_true (by omega) | exact nd_t (by omega) | rfl | decide)) (k := ?_)
                    refine v0 (k := ?_)
                    refine w0 (k := ?_)
                    refine w0 (k := ?_)
                    refine rb 144 false (h := by (first | with_reducible rfl | exact decide_eq_false (by omega) | exact nd_f (by omega) | rfl | decide)) (k := ?_)
                    refine w0 (k := ?_)
                    refine w0 (k := ?_)
                    refine w0 (k := ?_)
                    refine w0 (k := ?_)
                    refine rb 148 false (h := by (first | with_reducible rfl | exact decide_eq_false (by omega) | exact nd_f (by omega) | rfl | decide)) (k := ?_)
                    refine w0 (k := ?_)
                    refine w0 (k := ?_)
                    refine w0 (k := ?_)
                    refine w0 (k := ?_)
                    refine w0 (k := ?_)
                    refine w0 (k := ?_)
                    refine rb 154 false (h := by (first | with_reducible rfl | exact decide_eq_false (by omega) | exact nd_f (by omega) | rfl | decide)) (k := ?_)
                    refine w0 (k := ?_)
                    refine v0 (k := ?_)
                    refine nil0 ?_
                    repeat refine gwp_seq ?_
                    refine cF (k := ?_)
                    repeat refine gwp_seq ?_
                    refine gwp_skip ?_
                    refine cl [1, 2, 3, 7, 10, 11, 12, 14, 17, 21, 22, 77, 78, 79] (k := ?_)
                    repeat refine gwp_seq ?_
                    refine gwp_region ?_
                    refine v0 (k := ?_)
                    refine v0 (k := ?_)
                    refine rb 158 false (h := by (first | with_reducible rfl | exact decide_eq_false (by omega) | exact nd_f (by omega) | rfl | decide)) (k := ?_)
                    refine nil0 ?_
                    repeat refine gwp_seq ?_
                    refine cF (k := ?_)
                    repeat refine gwp_seq ?_
                    refine gwp_skip ?_
                    refine cl [1, 2, 3, 7, 10, 11, 12, 14, 17, 21, 22, 77, 78, 79] (k := ?_)
                    repeat refine gwp_seq ?_
                    refine gwp_region ?_
                    refine v0 (k := ?_)
                    refine n1 2100 false (hc := kLk1.h {}) (k := ?_)
                    refine v0 (k := ?_)
                    refine nil0 ?_
                    refine cl [1, 2, 3, 7, 10, 11, 12, 14, 21, 22, 24, 77, 78, 79] (k := ?_)
                    repeat refine gwp_seq ?_
                    refine gwp_region ?_
                    refine v0 (k := ?_)
                    refine v0 (k := ?_)
                    refine v0 (k := ?_)
                    refine nil0 ?_
                    refine cl [1, 2, 3, 7, 10, 11, 12, 14, 21, 22, 24, 77, 78, 79, 201, 202, 203] (k := ?_)
                    repeat refine gwp_seq ?_
                    refine gwp_block ?_
                    repeat refine gwp_seq ?_
                    refine gc_loop (fun mz σ => ∃ (j : Nat) (M : List Nat) (q : Nat), (j ≤ bs.length) ∧ (wayL c.kn M (holN (p : Nat) c.rs k).toNat q) ∧ (M.length ≤ 12) ∧ mz = bs.length - j ∧ σ = (sg [(1, .p (.int .i64 (p : Nat))), (2, .p (.list (bs.map (.int .u8)))), (3, .ref 130 0), (7, .map 630), (10, .p (.int .i64 (brkV c (p : Nat)).1)), (11, .p (.int .i64 (brkV c (p : Nat)).2)), (12, .p (.int .i64 (fbN (p : Nat) c.rs (k + 1)))), (14, .ref 240 0), (21, .p (.list (intL (pathA c (p : Nat) (k : Nat)).1))), (22, .p (.int .i64 (pathA c (p : Nat) (k : Nat)).2)), (24, .own 2100 M.length), (77, .p (.list (c.rs.map pr))), (78, .p (.int .i64 (c.rs.length : Nat))), (79, .p (.int .i64 (k : Nat))), (201, .p (.list (bs.map (.int .u8)))), (202, .p (.int .i64 (bs.length : Nat))), (203, .p (.int .i64 (j : Nat)))] [(130, .cells [.p (.int .i64 c.pl), .p (.int .i64 c.ps), .p (.list (c.kn.map pk)), .p (.list (c.rs.map pr)), .p (.int .i64 c.ms)] 0), (630, .map (mapK c.kn)), (240, .cells [.p (.int .i64 (p : Nat)), .p (.int .i64 rf), .p (.int .i64 rt)] 0), (2100, .arr 3 1 (intL M) true)] A [] : Sg E)) ?_ (fun mz σ hI => ?_)
                    · refine lbeg [1, 2, 3, 7, 10, 11, 12, 14, 21, 22, 24, 77, 78, 79, 201, 202, 203] (hV := ?_)
                      exact ⟨_, 0, [(holN (p : Nat) c.rs k).toNat], (holN (p : Nat) c.rs k).toNat, by omega, ⟨rfl, rfl⟩, by simp, rfl, sgE rfl (by rw [int_one hhl.1])⟩
                    obtain ⟨j, M, q, hj, hM, hM12, hnj, rfl⟩ := hI
                    repeat refine gwp_seq ?_
                    refine gwp_region ?_
                    refine v0 (k := ?_)
                    refine nil0 ?_
                    repeat refine gwp_seq ?_
                    refine cB (k1 := fun hb26 => ?_) (k0 := fun hb26 => ?_)
                    · replace hb26 := hB.h {} hb26
                      try rw [eqI] at hb26
                      repeat refine gwp_seq ?_
                      refine gwp_skip ?_
                      refine cl [1, 2, 3, 7, 10, 11, 12, 14, 21, 22, 24, 77, 78, 79, 201, 202, 203] (k := ?_)
                      repeat refine gwp_seq ?_
                      refine gwp_block ?_
                      repeat refine gwp_seq ?_
                      obtain ⟨b, hb⟩ := getE (l := bs) (k := j) (by omega)
                      have hb8 := hbs b (List.mem_of_getElem? hb)
                      obtain ⟨b, rfl⟩ : ∃ n : Nat, b = n := ⟨b.toNat, by omega⟩
                      obtain ⟨u, hu, hu8, hub⟩ := tmod_nat (b := b) hn.2.1
                      clear hub
                      refine gwp_region ?_
                      refine v1 (hc := kLk1.h {}) (k := ?_)
                      refine v0 (k := ?_)
                      refine v0 (k := ?_)
                      refine nil0 ?_
                      refine cl [1, 2, 3, 7, 10, 11, 12, 14, 21, 22, 24, 26, 77, 78, 79, 201, 202, 203] (k := ?_)
                      repeat refine gwp_seq ?_
                      refine gwp_region ?_
                      refine v0 (k := ?_)
                      refine v1 (hc := kLk1.h {}) (k := ?_)
                      refine v0 (k := ?_)
                      refine v0 (k := ?_)
                      refine v1 (hc := kLk1.h {}) (k := ?_)
                      refine v0 (k := ?_)
                      refine nil0 ?_
                      refine cl [1, 2, 3, 7, 10, 11, 12, 14, 21, 22, 24, 27, 77, 78, 79, 201, 202, 203] (k := ?_)
                      repeat refine gwp_seq ?_
                      have hMp := (wayL_head hM).2
                      have hMl := int_last (l := M) (n := (M.length : Int)) (by omega) (wayL_last hM)
                      rcases kn_or c.kn q u with ⟨hknow, hmg⟩ | hmg
                      · repeat refine gwp_seq ?_
                        refine rd ?_
                        refine d0 0 (k := ?_)
                        refine d0 1 (k := ?_)
                        refine d0 2 (k := ?_)
                        refine d1 3 (hc := by (exact intL_len _)) (k := ?_)
                        refine d1 4 (hc := kLk1.h {}) (k := ?_)
                        refine d1 5 (hc := kLk1.h {}) (k := ?_)
                        refine d0 6 (k := ?_)
                        refine d0 7 (k := ?_)
                        refine d0 8 (k := ?_)
                        refine d1 9 (hc := kLk1.h {}) (k := ?_)
                        refine d0 10 (k := ?_)
                        refine dw0 11 (k := ?_)
                        refine dw0 12 (k := ?_)
                        refine dw1 13 (hc := by (exact intL_len _)) (k := ?_)
                        refine dw1 14 (hc := kLk1.h {}) (k := ?_)
                        refine dw1 15 (hc := kLk1.h {}) (k := ?_)
                        refine dw0 16 (k := ?_)
                        refine dw0 17 (k := ?_)
                        refine dw0 18 (k := ?_)
                        refine dw0 19 (k := ?_)
                        refine d0 20 (k := ?_)
                        refine d0 21 (k := ?_)
                        refine db0 22 233 (k1 := fun hb27 => ?_) (k0 := fun hb27 => ?_)
                        · replace hb27 := hB.h {} hb27
                          try rw [eqI] at hb27
                          refine dw0 22 (k := ?_)
                          refine dw1 23 (hc := by (exact intL_len _)) (k := ?_)
                          refine dw0 24 (k := ?_)
                          refine d0 25 (k := ?_)
                          refine dz 26 [0, 0, 0, 4, 12, 30, 62, 0, 254, 511, 1023, 2047, 2047, 6143, 14335, 32767, 65535, 2047, 133119, 524287, 1048575, 2097151, 4194303, 8388607, 16777215, 33554431] (h := ?_)
                          refine de 26 (h := ?_)
                          repeat refine gwp_seq ?_
                          refine cB (k1 := fun hb28 => ?_) (k0 := fun hb28 => ?_)
                          · replace hb28 := hB.h {} hb28
                            try rw [eqI] at hb28
                            repeat refine gwp_seq ?_
                            refine gwp_region ?_
                            refine v0 (k := ?_)
                            refine v0 (k := ?_)
                            refine n1 2500 false (hc := kLk1.h {}) (k := ?_)
                            refine n1 2510 false (hc := kLk1.h {}) (k := ?_)
                            refine v0 (k := ?_)
                            refine nil0 ?_
                            refine cl [1, 2, 3, 7, 10, 11, 12, 14, 21, 22, 24, 77, 78, 79, 201, 202, 203] (k := ?_)
                            repeat refine gwp_seq ?_
                            refine gwp_region ?_
                            refine v1 (hc := kLk1.h {}) (k := ?_)
                            refine v0 (k := ?_)
                            refine nil0 ?_
                            refine lend [1, 2, 3, 7, 10, 11, 12, 14, 21, 22, 24, 77, 78, 79, 201, 202, 203] (h := ?_) (hV := ?_) (n' := bs.length - (j + 1))
                            · omega
                            first
                            | exact ⟨j + 1, M ++ [u], u, by omega, wayL_snoc hM (by assumption), by rw [List.length_append, List.length_cons, List.length_nil]; omega, rfl, sgE (by rw [List.length_append]; rfl) (by rw [int_snoc])⟩
                            | exact ⟨j + 1, M, q, by omega, hM, hM12, rfl, rfl⟩
                          · replace hb28 := hB.h {} hb28
                            try rw [eqI] at hb28
                            repeat refine gwp_seq ?_
                            refine gwp_skip ?_
                            refine cl [1, 2, 3, 7, 10, 11, 12, 14, 21, 22, 24, 77, 78, 79, 201, 202, 203] (k := ?_)
                            repeat refine gwp_seq ?_
                            refine gwp_region ?_
                            refine v1 (hc := kLk1.h {}) (k := ?_)
                            refine v0 (k := ?_)
                            refine nil0 ?_
                            refine lend [1, 2, 3, 7, 10, 11, 12, 14, 21, 22, 24, 77, 78, 79, 201, 202, 203] (h := ?_) (hV := ?_) (n' := bs.length - (j + 1))
                            · omega
                            first
                            | exact ⟨j + 1, M ++ [u], u, by omega, wayL_snoc hM (by assumption), by rw [List.length_append, List.length_cons, List.length_nil]; omega, rfl, sgE (by rw [List.length_append]; rfl) (by rw [int_snoc])⟩
                            | exact ⟨j + 1, M, q, by omega, hM, hM12, rfl, rfl⟩
                        · replace hb27 := hB.h {} hb27
                          try rw [eqI] at hb27
                          refine dx0 22 (k := ?_)
                          refine dx0 23 (k := ?_)
                          refine dx0 24 (k := ?_)
                          refine d0 25 (k := ?_)
                          refine dz 26 [0, 0, 0, 4, 12, 30, 62, 0, 254, 511, 1023, 2047, 2047, 6143, 14335, 32767, 65535, 2047, 133119, 524287, 1048575, 2097151, 4194303, 8388607, 16777215, 33554431] (h := ?_)
                          refine de 26 (h := ?_)
                          repeat refine gwp_seq ?_
                          refine cF (k := ?_)
                          repeat refine gwp_seq ?_
                          refine gwp_skip ?_
                          refine cl [1, 2, 3, 7, 10, 11, 12, 14, 21, 22, 24, 77, 78, 79, 201, 202, 203] (k := ?_)
                          repeat refine gwp_seq ?_
                          refine gwp_region ?_
                          refine v1 (hc := kLk1.h {}) (k := ?_)
                          refine v0 (k := ?_)
                          refine nil0 ?_
                          refine lend [1, 2, 3, 7, 10, 11, 12, 14, 21, 22, 24, 77, 78, 79, 201, 202, 203] (h := ?_) (hV := ?_) (n' := bs.length - (j + 1))
                          · omega
                          first
                          | exact ⟨j + 1, M ++ [u], u, by omega, wayL_snoc hM (by assumption), by rw [List.length_append, List.length_cons, List.length_nil]; omega, rfl, sgE (by rw [List.length_append]; rfl) (by rw [int_snoc])⟩
                          | exact ⟨j + 1, M, q, by omega, hM, hM12, rfl, rfl⟩
                      · repeat refine gwp_seq ?_
                        refine rd ?_
                        refine d0 0 (k := ?_)
                        refine d0 1 (k := ?_)
                        refine d0 2 (k := ?_)
                        refine d1 3 (hc := by (exact intL_len _)) (k := ?_)
                        refine d1 4 (hc := kLk1.h {}) (k := ?_)
                        refine d1 5 (hc := kLk1.h {}) (k := ?_)
                        refine d0 6 (k := ?_)
                        refine d0 7 (k := ?_)
                        refine d0 8 (k := ?_)
                        refine d1 9 (hc := kLk1.h {}) (k := ?_)
                        refine d0 10 (k := ?_)
                        refine dx0 11 (k := ?_)
                        refine dx0 12 (k := ?_)
                        refine dx0 13 (k := ?_)
                        refine dx0 14 (k := ?_)
                        refine dx0 15 (k := ?_)
                        refine dx0 16 (k := ?_)
                        refine dx0 17 (k := ?_)
                        refine dx0 18 (k := ?_)
                        refine dx0 19 (k := ?_)
                        refine d0 20 (k := ?_)
                        refine d0 21 (k := ?_)
                        refine dx0 22 (k := ?_)
                        refine dx0 23 (k := ?_)
                        refine dx0 24 (k := ?_)
                        refine d0 25 (k := ?_)
                        refine dz 26 [0, 0, 0, 4, 12, 30, 62, 0, 254, 511, 1023, 2047, 2047, 6143, 14335, 32767, 65535, 2047, 133119, 524287, 1048575, 2097151, 4194303, 8388607, 16777215, 33554431] (h := ?_)
                        refine de 26 (h := ?_)
                        repeat refine gwp_seq ?_
                        refine cF (k := ?_)
                        repeat refine gwp_seq ?_
                        refine gwp_skip ?_
                        refine cl [1, 2, 3, 7, 10, 11, 12, 14, 21, 22, 24, 77, 78, 79, 201, 202, 203] (k := ?_)
                        repeat refine gwp_seq ?_
                        refine gwp_region ?_
                        refine v1 (hc := kLk1.h {}) (k := ?_)
                        refine v0 (k := ?_)
                        refine nil0 ?_
                        refine lend [1, 2, 3, 7, 10, 11, 12, 14, 21, 22, 24, 77, 78, 79, 201, 202, 203] (h := ?_) (hV := ?_) (n' := bs.length - (j + 1))
                        · omega
                        first
                        | exact ⟨j + 1, M ++ [u], u, by omega, wayL_snoc hM (by assumption), by rw [List.length_append, List.length_cons, List.length_nil]; omega, rfl, sgE (by rw [List.length_append]; rfl) (by rw [int_snoc])⟩
                        | exact ⟨j + 1, M, q, by omega, hM, hM12, rfl, rfl⟩
                    · replace hb26 := hB.h {} hb26
                      try rw [eqI] at hb26
                      repeat refine gwp_seq ?_
                      refine gwp_exit ?_
                      repeat (first | refine gthen_exit ?_ | refine gnoGoto_exit ?_ | refine gblock_here ?_ | refine gblock_out rfl ?_)
                      refine cl [1, 2, 3, 7, 10, 11, 12, 14, 21, 22, 24, 77, 78, 79] (k := ?_)
                      repeat refine gwp_seq ?_
                      have hMp := (wayL_head hM).2
                      have hMl := int_last (l := M) (n := (M.length : Int)) (by omega) (wayL_last hM)
                      refine rd ?_
                      refine d0 0 (k := ?_)
                      refine d0 1 (k := ?_)
                      refine d1 2 (hc := by (exact intL_len _)) (k := ?_)
                      refine d1 3 (hc := kLk1.h {}) (k := ?_)
                      refine d1 4 (hc := kLk1.h {}) (k := ?_)
                      refine d0 5 (k := ?_)
                      refine d0 6 (k := ?_)
                      refine d0 7 (k := ?_)
                      refine d0 8 (k := ?_)
                      refine dz 9 [0, 0, 2, 6, 15, 31, 0, 64, 255] (h := ?_)
                      refine de 9 (h := ?_)
                      repeat refine gwp_seq ?_
                      refine cB (k1 := fun hb29 => ?_) (k0 := fun hb29 => ?_)
                      · replace hb29 := hB.h {} hb29
                        try rw [eqI] at hb29
                        repeat refine gwp_seq ?_
                        refine gwp_exit ?_
                        repeat (first | refine gthen_exit ?_ | refine gnoGoto_exit ?_ | refine gblock_here ?_ | refine gblock_out rfl ?_)
                        refine cl [1, 2, 3, 7, 10, 11, 12, 77, 78, 79] (k := ?_)
                        repeat refine gwp_seq ?_
                        refine gwp_region ?_
                        refine v1 (hc := kLk1.h {}) (k := ?_)
                        refine v0 (k := ?_)
                        refine nil0 ?_
                        refine lend [1, 2, 3, 7, 10, 11, 12, 77, 78, 79] (h := ?_) (hV := ?_) (n' := c.rs.length - (k + 1))
                        · omega
                        first
                        | exact ⟨k + 1, by omega, rfl, rfl⟩
                        | exact ⟨k + 1, by omega, rfl, sgE (by rw [fb_skip hr (by simp only; omega)]; rfl) rfl⟩
                        | exact ⟨k + 1, by omega, rfl, sgE (by rw [fb_same hr (by simp only; omega)]; rfl) rfl⟩
                      · replace hb29 := hB.h {} hb29
                        try rw [eqI] at hb29
                        repeat refine gwp_seq ?_
                        refine gwp_skip ?_
                        refine cl [1, 2, 3, 7, 10, 11, 12, 21, 22, 24, 77, 78, 79] (k := ?_)
                        repeat refine gwp_seq ?_
                        have hq : q = rf.toNat := by omega
                        subst hq
                        · exact absurd (hno M hM) (by omega)
            · replace hb6 := hB.h {} hb6
              try rw [eqI] at hb6
              repeat refine gwp_seq ?_
              refine gwp_exit ?_
              repeat (first | refine gthen_exit ?_ | refine gnoGoto_exit ?_ | refine gblock_here ?_ | refine gblock_out rfl ?_)
              refine cl [3, 10, 11, 12] (k := ?_)
              repeat refine gwp_seq ?_
              obtain rfl : k = c.rs.length := by omega
              have hbk := brkV_fb c (p : Nat)
              have hfb := fb_in (x := (p : Nat)) (rs := c.rs) c.rs.length
              by_cases h3 : fbN (p : Nat) c.rs c.rs.length < 0
              · rw [if_pos h3] at hbk
                have hb1 : (brkV c (p : Nat)).1 ≤ 0 ∧ 0 ≤ (brkV c (p : Nat)).1 := by rw [hbk]; simp
                have hb2 : (brkV c (p : Nat)).2 ≤ 4 ∧ 4 ≤ (brkV c (p : Nat)).2 := by rw [hbk]; simp
                clear hbk
                repeat refine gwp_seq ?_
                refine gwp_region ?_
                refine v0 (k := ?_)
                refine v0 (k := ?_)
                refine v0 (k := ?_)
                refine v0 (k := ?_)
                refine v0 (k := ?_)
                refine rb 297 false (h := by (rw [decide_eq_false (by omega), decide_eq_false (by omega)]; rfl)) (k := ?_)
                refine v0 (k := ?_)
                refine w0 (k := ?_)
                refine w0 (k := ?_)
                refine rb 300 false (h := by (first | with_reducible rfl | exact decide_eq_false (by omega) | exact nd_f (by omega) | rfl | decide)) (k := ?_)
                refine w0 (k := ?_)
                refine x0 (k := ?_)
                refine x0 (k := ?_)
                refine x0 (k := ?_)
                refine w0 (k := ?_)
                refine v0 (k := ?_)
                refine v0 (k := ?_)
                refine w0 (k := ?_)
                refine w0 (k := ?_)
                refine rb 309 true (h := by (first | with_reducible rfl | exact decide_eq_true (by omega) | exact nd_t (by omega) | rfl | decide)) (k := ?_)
                refine w0 (k := ?_)
                refine w0 (k := ?_)
                refine w0 (k := ?_)
                refine rb 312 false (h := by (first | with_reducible rfl | exact decide_eq_false (by omega) | exact nd_f (by omega) | rfl | decide)) (k := ?_)
                refine w0 (k := ?_)
                refine w0 (k := ?_)
                refine w0 (k := ?_)
                refine rb 315 false (h := by (first | with_reducible rfl | exact decide_eq_false (by omega) | exact nd_f (by omega) | rfl | decide)) (k := ?_)
                refine w0 (k := ?_)
                refine w0 (k := ?_)
                refine v0 (k := ?_)
                refine nil0 ?_
                repeat refine gwp_seq ?_
                refine cF (k := ?_)
                repeat refine gwp_seq ?_
                refine gwp_skip ?_
                refine cl [3] (k := ?_)
                repeat refine gwp_seq ?_
                refine gwp_region ?_
                refine v0 (k := ?_)
                refine pc0 (spec := c_least c (by omega) (by omega)) (hent := ent21) (k := ?_)
                refine v0 (k := ?_)
                refine v0 (k := ?_)
                refine v0 (k := ?_)
                refine v0 (k := ?_)
                refine v0 (k := ?_)
                refine nil0 ?_
                refine cl [3, 29, 30] (k := ?_)
                repeat refine gwp_seq ?_
                refine gwp_region ?_
                refine v0 (k := ?_)
                refine nil0 ?_
                refine cl [3, 29, 30, 31] (k := ?_)
                repeat refine gwp_seq ?_
                refine gwp_region ?_
                refine v0 (k := ?_)
                refine v0 (k := ?_)
                refine v0 (k := ?_)
                refine nil0 ?_
                refine cl [3, 29, 30, 31, 325, 326] (k := ?_)
                repeat refine gwp_seq ?_
                refine gwp_block ?_
                repeat refine gwp_seq ?_
                refine gc_loop (fun mz σ => ∃ k : Nat, ((k : Int) ≤ c.pl) ∧ mz = c.pl.toNat - k ∧ σ = (sg [(3, .ref 130 0), (29, .p (.int .i64 (leastA c).1)), (30, .p (.int .i64 (leastA c).2)), (31, .p (.bool (nbr c k))), (325, .p (.int .i64 c.pl)), (326, .p (.int .i64 (k : Nat)))] [(130, .cells [.p (.int .i64 c.pl), .p (.int .i64 c.ps), .p (.list (c.kn.map pk)), .p (.list (c.rs.map pr)), .p (.int .i64 c.ms)] 0)] A [] : Sg E)) ?_ (fun mz σ hI => ?_)
                · refine lbeg [3, 29, 30, 31, 325, 326] (hV := ?_)
                  exact ⟨_, 0, by omega, rfl, rfl⟩
                obtain ⟨k, hk, hnn, rfl⟩ := hI
                repeat refine gwp_seq ?_
                refine gwp_region ?_
                refine v0 (k := ?_)
                refine nil0 ?_
                repeat refine gwp_seq ?_
                refine cB (k1 := fun hb30 => ?_) (k0 := fun hb30 => ?_)
                · replace hb30 := hB.h {} hb30
                  try rw [eqI] at hb30
                  repeat refine gwp_seq ?_
                  refine gwp_skip ?_
                  refine cl [3, 29, 30, 31, 325, 326] (k := ?_)
                  repeat refine gwp_seq ?_
                  refine gwp_block ?_
                  repeat refine gwp_seq ?_
                  refine gwp_region ?_
                  refine v0 (k := ?_)
                  refine v0 (k := ?_)
                  refine nil0 ?_
                  refine cl [3, 29, 30, 31, 32, 325, 326] (k := ?_)
                  repeat refine gwp_seq ?_
                  refine gwp_region ?_
                  refine v0 (k := ?_)
                  refine v0 (k := ?_)
                  refine pc0 (spec := w_break c hv k (by omega)) (hent := ent17) (k := ?_)
                  refine v0 (k := ?_)
                  refine v0 (k := ?_)
                  refine v0 (k := ?_)
                  refine v0 (k := ?_)
                  refine v0 (k := ?_)
                  refine nil0 ?_
                  refine cl [3, 29, 30, 31, 34, 325, 326] (k := ?_)
                  repeat refine gwp_seq ?_
                  refine gwp_region ?_
                  refine v0 (k := ?_)
                  refine v0 (k := ?_)
                  refine b0 (k1 := fun hb31 => ?_) (k0 := fun hb31 => ?_)
                  · replace hb31 := hB.h {} hb31
                    try rw [eqI] at hb31
                    refine w0 (k := ?_)
                    refine w0 (k := ?_)
                    refine v0 (k := ?_)
                    refine v0 (k := ?_)
                    refine nil0 ?_
                    refine cl [3, 29, 30, 31, 325, 326] (k := ?_)
                    repeat refine gwp_seq ?_
                    refine gwp_region ?_
                    refine v1 (hc := kLk1.h {}) (k := ?_)
                    refine v0 (k := ?_)
                    refine nil0 ?_
                    refine lend [3, 29, 30, 31, 325, 326] (h := ?_) (hV := ?_) (n' := c.pl.toNat - (k + 1))
                    · omega
                    first
                    | exact ⟨k + 1, by omega, rfl, sgE (by rw [nbr_t (by assumption)]; rfl) rfl⟩
                    | exact ⟨k + 1, by omega, rfl, sgE (by rw [nbr_f (by assumption)]; rfl) rfl⟩
                  · replace hb31 := hB.h {} hb31
                    try rw [eqI] at hb31
                    refine x0 (k := ?_)
                    refine x0 (k := ?_)
                    refine v0 (k := ?_)
                    refine v0 (k := ?_)
                    refine nil0 ?_
                    refine cl [3, 29, 30, 31, 325, 326] (k := ?_)
                    repeat refine gwp_seq ?_
                    refine gwp_region ?_
                    refine v1 (hc := kLk1.h {}) (k := ?_)
                    refine v0 (k := ?_)
                    refine nil0 ?_
                    refine lend [3, 29, 30, 31, 325, 326] (h := ?_) (hV := ?_) (n' := c.pl.toNat - (k + 1))
                    · omega
                    first
                    | exact ⟨k + 1, by omega, rfl, sgE (by rw [nbr_t (by assumption)]; rfl) rfl⟩
                    | exact ⟨k + 1, by omega, rfl, sgE (by rw [nbr_f (by assumption)]; rfl) rfl⟩
                · replace hb30 := hB.h {} hb30
                  try rw [eqI] at hb30
                  repeat refine gwp_seq ?_
                  refine gwp_exit ?_
                  repeat (first | refine gthen_exit ?_ | refine gnoGoto_exit ?_ | refine gblock_here ?_ | refine gblock_out rfl ?_)
                  refine cl [29, 30, 31] (k := ?_)
                  repeat refine gwp_seq ?_
                  have hkp : k = c.pl.toNat := by omega
                  subst hkp
                  have hfin := nbr_least hv
                  rcases least_or hv with ⟨h1, h2, h3, h4⟩ | ⟨h1, h2, hlz⟩
                  · have e355 : decide ((leastA c).1 = 0) = decide (leastC c = 0) := by rw [show (leastA c).1 = leastC c by omega]
                    repeat refine gwp_seq ?_
                    refine gwp_region ?_
                    refine v0 (k := ?_)
                    refine v0 (k := ?_)
                    refine rb 342 true (h := by (first | with_reducible rfl | exact decide_eq_true (by omega) | exact nd_t (by omega) | rfl | decide)) (k := ?_)
                    refine v0 (k := ?_)
                    refine x0 (k := ?_)
                    refine x0 (k := ?_)
                    refine v0 (k := ?_)
                    refine v0 (k := ?_)
                    refine w0 (k := ?_)
                    refine w0 (k := ?_)
                    refine w0 (k := ?_)
                    refine rb 350 true (h := by (first | with_reducible rfl | exact decide_eq_true (by omega) | exact nd_t (by omega) | rfl | decide)) (k := ?_)
                    refine w0 (k := ?_)
                    refine w0 (k := ?_)
                    refine w0 (k := ?_)
                    refine w0 (k := ?_)
                    refine w0 (k := ?_)
                    refine rb 355 true (h := by (first | exact beq_b _ | (rw [hfin]; exact beq_b _) | (rw [hfin, e355]; exact beq_b _))) (k := ?_)
                    refine v0 (k := ?_)
                    refine v0 (k := ?_)
                    refine pcw (spec := l_alive) (hent := ent14) (k := ?_)
                    refine v0 (k := ?_)
                    refine v0 (k := ?_)
                    refine nil0 ?_
                    repeat refine gwp_seq ?_
                    refine gwp_ret ?_
                    repeat (first | refine gthen_ret ?_ | refine gblock_ret ?_ | refine gnoGoto_ret ?_)
                    refine fin_ret ?_
                    refine fp (hR := ?_)
                    rfl
                  · repeat refine gwp_seq ?_
                    refine gwp_region ?_
                    refine v0 (k := ?_)
                    refine v0 (k := ?_)
                    refine rb 342 false (h := by (first | with_reducible rfl | exact decide_eq_false (by omega) | exact nd_f (by omega) | rfl | decide)) (k := ?_)
                    refine v0 (k := ?_)
                    refine w0 (k := ?_)
                    refine w0 (k := ?_)
                    refine rb 345 true (h := by (first | with_reducible rfl | exact decide_eq_true (by omega) | exact nd_t (by omega) | rfl | decide)) (k := ?_)
                    refine v0 (k := ?_)
                    refine v0 (k := ?_)
                    refine w0 (k := ?_)
                    refine w0 (k := ?_)
                    refine w0 (k := ?_)
                    refine rb 350 false (h := by (first | with_reducible rfl | exact decide_eq_false (by omega) | exact nd_f (by omega) | rfl | decide)) (k := ?_)
                    refine w0 (k := ?_)
                    refine x0 (k := ?_)
                    refine x0 (k := ?_)
                    refine w0 (k := ?_)
                    refine w0 (k := ?_)
                    refine rb 355 true (h := by (first | with_reducible rfl | (rw [hfin, decide_eq_false hlz]; rfl) | (rw [hfin]; exact beq_b _) | simp)) (k := ?_)
                    refine v0 (k := ?_)
                    refine v0 (k := ?_)
                    refine pcw (spec := l_alive) (hent := ent14) (k := ?_)
                    refine v0 (k := ?_)
                    refine v0 (k := ?_)
                    refine nil0 ?_
                    repeat refine gwp_seq ?_
                    refine gwp_ret ?_
                    repeat (first | refine gthen_ret ?_ | refine gblock_ret ?_ | refine gnoGoto_ret ?_)
                    refine fin_ret ?_
                    refine fp (hR := ?_)
                    rfl
              · rw [if_neg h3] at hbk
                have hb1 : (brkV c (p : Nat)).1 ≤ fbN (p : Nat) c.rs c.rs.length ∧ fbN (p : Nat) c.rs c.rs.length ≤ (brkV c (p : Nat)).1 := by rw [hbk]; simp
                have hb2 : (brkV c (p : Nat)).2 ≤ 0 ∧ 0 ≤ (brkV c (p : Nat)).2 := by rw [hbk]; simp
                clear hbk
                repeat refine gwp_seq ?_
                refine gwp_region ?_
                refine v0 (k := ?_)
                refine v0 (k := ?_)
                refine v0 (k := ?_)
                refine v0 (k := ?_)
                refine v0 (k := ?_)
                refine rb 297 false (h := by (rw [decide_eq_true (by omega), decide_eq_true (by omega)]; rfl)) (k := ?_)
                refine v0 (k := ?_)
                refine w0 (k := ?_)
                refine w0 (k := ?_)
                refine rb 300 true (h := by (first | with_reducible rfl | exact decide_eq_true (by omega) | exact nd_t (by omega) | rfl | decide)) (k := ?_)
                refine w0 (k := ?_)
                refine w0 (k := ?_)
                refine w0 (k := ?_)
                refine w0 (k := ?_)
                refine rb 304 false (h := by (first | with_reducible rfl | exact decide_eq_false (by omega) | exact nd_f (by omega) | rfl | decide)) (k := ?_)
                refine w0 (k := ?_)
                refine v0 (k := ?_)
                refine v0 (k := ?_)
                refine w0 (k := ?_)
                refine w0 (k := ?_)
                refine rb 309 false (h := by (first | with_reducible rfl | exact decide_eq_false (by omega) | exact nd_f (by omega) | rfl | decide)) (k := ?_)
                refine w0 (k := ?_)
                refine x0 (k := ?_)
                refine x0 (k := ?_)
                refine x0 (k := ?_)
                refine x1 (k := ?_)
                refine x1 (k := ?_)
                refine x0 (k := ?_)
                refine w0 (k := ?_)
                refine v0 (k := ?_)
                refine nil0 ?_
                repeat refine gwp_seq ?_
                refine cF (k := ?_)
                repeat refine gwp_seq ?_
                refine gwp_skip ?_
                refine cl [3] (k := ?_)
                repeat refine gwp_seq ?_
                refine gwp_region ?_
                refine v0 (k := ?_)
                refine pc0 (spec := c_least c (by omega) (by omega)) (hent := ent21) (k := ?_)
                refine v0 (k := ?_)
                refine v0 (k := ?_)
                refine v0 (k := ?_)
                refine v0 (k := ?_)
                refine v0 (k := ?_)
                refine nil0 ?_
                refine cl [3, 29, 30] (k := ?_)
                repeat refine gwp_seq ?_
                refine gwp_region ?_
                refine v0 (k := ?_)
                refine nil0 ?_
                refine cl [3, 29, 30, 31] (k := ?_)
                repeat refine gwp_seq ?_
                refine gwp_region ?_
                refine v0 (k := ?_)
                refine v0 (k := ?_)
                refine v0 (k := ?_)
                refine nil0 ?_
                refine cl [3, 29, 30, 31, 325, 326] (k := ?_)
                repeat refine gwp_seq ?_
                refine gwp_block ?_
                repeat refine gwp_seq ?_
                refine gc_loop (fun mz σ => ∃ k : Nat, ((k : Int) ≤ c.pl) ∧ mz = c.pl.toNat - k ∧ σ = (sg [(3, .ref 130 0), (29, .p (.int .i64 (leastA c).1)), (30, .p (.int .i64 (leastA c).2)), (31, .p (.bool (nbr c k))), (325, .p (.int .i64 c.pl)), (326, .p (.int .i64 (k : Nat)))] [(130, .cells [.p (.int .i64 c.pl), .p (.int .i64 c.ps), .p (.list (c.kn.map pk)), .p (.list (c.rs.map pr)), .p (.int .i64 c.ms)] 0)] A [] : Sg E)) ?_ (fun mz σ hI => ?_)
                · refine lbeg [3, 29, 30, 31, 325, 326] (hV := ?_)
                  exact ⟨_, 0, by omega, rfl, rfl⟩
                obtain ⟨k, hk, hnn, rfl⟩ := hI
                repeat refine gwp_seq ?_
                refine gwp_region ?_
                refine v0 (k := ?_)
                refine nil0 ?_
                repeat refine gwp_seq ?_
                refine cB (k1 := fun hb32 => ?_) (k0 := fun hb32 => ?_)
                · replace hb32 := hB.h {} hb32
                  try rw [eqI] at hb32
                  repeat refine gwp_seq ?_
                  refine gwp_skip ?_
                  refine cl [3, 29, 30, 31, 325, 326] (k := ?_)
                  repeat refine gwp_seq ?_
                  refine gwp_block ?_
                  repeat refine gwp_seq ?_
                  refine gwp_region ?_
                  refine v0 (k := ?_)
                  refine v0 (k := ?_)
                  refine nil0 ?_
                  refine cl [3, 29, 30, 31, 32, 325, 326] (k := ?_)
                  repeat refine gwp_seq ?_
                  refine gwp_region ?_
                  refine v0 (k := ?_)
                  refine v0 (k := ?_)
                  refine pc0 (spec := w_break c hv k (by omega)) (hent := ent17) (k := ?_)
                  refine v0 (k := ?_)
                  refine v0 (k := ?_)
                  refine v0 (k := ?_)
                  refine v0 (k := ?_)
                  refine v0 (k := ?_)
                  refine nil0 ?_
                  refine cl [3, 29, 30, 31, 34, 325, 326] (k := ?_)
                  repeat refine gwp_seq ?_
                  refine gwp_region ?_
                  refine v0 (k := ?_)
                  refine v0 (k := ?_)
                  refine b0 (k1 := fun hb33 => ?_) (k0 := fun hb33 => ?_)
                  · replace hb33 := hB.h {} hb33
                    try rw [eqI] at hb33
                    refine w0 (k := ?_)
                    refine w0 (k := ?_)
                    refine v0 (k := ?_)
                    refine v0 (k := ?_)
                    refine nil0 ?_
                    refine cl [3, 29, 30, 31, 325, 326] (k := ?_)
                    repeat refine gwp_seq ?_
                    refine gwp_region ?_
                    refine v1 (hc := kLk1.h {}) (k := ?_)
                    refine v0 (k := ?_)
                    refine nil0 ?_
                    refine lend [3, 29, 30, 31, 325, 326] (h := ?_) (hV := ?_) (n' := c.pl.toNat - (k + 1))
                    · omega
                    first
                    | exact ⟨k + 1, by omega, rfl, sgE (by rw [nbr_t (by assumption)]; rfl) rfl⟩
                    | exact ⟨k + 1, by omega, rfl, sgE (by rw [nbr_f (by assumption)]; rfl) rfl⟩
                  · replace hb33 := hB.h {} hb33
                    try rw [eqI] at hb33
                    refine x0 (k := ?_)
                    refine x0 (k := ?_)
                    refine v0 (k := ?_)
                    refine v0 (k := ?_)
                    refine nil0 ?_
                    refine cl [3, 29, 30, 31, 325, 326] (k := ?_)
                    repeat refine gwp_seq ?_
                    refine gwp_region ?_
                    refine v1 (hc := kLk1.h {}) (k := ?_)
                    refine v0 (k := ?_)
                    refine nil0 ?_
                    refine lend [3, 29, 30, 31, 325, 326] (h := ?_) (hV := ?_) (n' := c.pl.toNat - (k + 1))
                    · omega
                    first
                    | exact ⟨k + 1, by omega, rfl, sgE (by rw [nbr_t (by assumption)]; rfl) rfl⟩
                    | exact ⟨k + 1, by omega, rfl, sgE (by rw [nbr_f (by assumption)]; rfl) rfl⟩
                · replace hb32 := hB.h {} hb32
                  try rw [eqI] at hb32
                  repeat refine gwp_seq ?_
                  refine gwp_exit ?_
                  repeat (first | refine gthen_exit ?_ | refine gnoGoto_exit ?_ | refine gblock_here ?_ | refine gblock_out rfl ?_)
                  refine cl [29, 30, 31] (k := ?_)
                  repeat refine gwp_seq ?_
                  have hkp : k = c.pl.toNat := by omega
                  subst hkp
                  have hfin := nbr_least hv
                  rcases least_or hv with ⟨h1, h2, h3, h4⟩ | ⟨h1, h2, hlz⟩
                  · have e355 : decide ((leastA c).1 = 0) = decide (leastC c = 0) := by rw [show (leastA c).1 = leastC c by omega]
                    repeat refine gwp_seq ?_
                    refine gwp_region ?_
                    refine v0 (k := ?_)
                    refine v0 (k := ?_)
                    refine rb 342 true (h := by (first | with_reducible rfl | exact decide_eq_true (by omega) | exact nd_t (by omega) | rfl | decide)) (k := ?_)
                    refine v0 (k := ?_)
                    refine x0 (k := ?_)
                    refine x0 (k := ?_)
                    refine v0 (k := ?_)
                    refine v0 (k := ?_)
                    refine w0 (k := ?_)
                    refine w0 (k := ?_)
                    refine w0 (k := ?_)
                    refine rb 350 true (h := by (first | with_reducible rfl | exact decide_eq_true (by omega) | exact nd_t (by omega) | rfl | decide)) (k := ?_)
                    refine w0 (k := ?_)
                    refine w0 (k := ?_)
                    refine w0 (k := ?_)
                    refine w0 (k := ?_)
                    refine w0 (k := ?_)
                    refine rb 355 true (h := by (first | exact beq_b _ | (rw [hfin]; exact beq_b _) | (rw [hfin, e355]; exact beq_b _))) (k := ?_)
                    refine v0 (k := ?_)
                    refine v0 (k := ?_)
                    refine pcw (spec := l_alive) (hent := ent14) (k := ?_)
                    refine v0 (k := ?_)
                    refine v0 (k := ?_)
                    refine nil0 ?_
                    repeat refine gwp_seq ?_
                    refine gwp_ret ?_
                    repeat (first | refine gthen_ret ?_ | refine gblock_ret ?_ | refine gnoGoto_ret ?_)
                    refine fin_ret ?_
                    refine fp (hR := ?_)
                    rfl
                  · repeat refine gwp_seq ?_
                    refine gwp_region ?_
                    refine v0 (k := ?_)
                    refine v0 (k := ?_)
                    refine rb 342 false (h := by (first | with_reducible rfl | exact decide_eq_false (by omega) | exact nd_f (by omega) | rfl | decide)) (k := ?_)
                    refine v0 (k := ?_)
                    refine w0 (k := ?_)
                    refine w0 (k := ?_)
                    refine rb 345 true (h := by (first | with_reducible rfl | exact decide_eq_true (by omega) | exact nd_t (by omega) | rfl | decide)) (k := ?_)
                    refine v0 (k := ?_)
                    refine v0 (k := ?_)
                    refine w0 (k := ?_)
                    refine w0 (k := ?_)
                    refine w0 (k := ?_)
                    refine rb 350 false (h := by (first | with_reducible rfl | exact decide_eq_false (by omega) | exact nd_f (by omega) | rfl | decide)) (k := ?_)
                    refine w0 (k := ?_)
                    refine x0 (k := ?_)
                    refine x0 (k := ?_)
                    refine w0 (k := ?_)
                    refine w0 (k := ?_)
                    refine rb 355 true (h := by (first | with_reducible rfl | (rw [hfin, decide_eq_false hlz]; rfl) | (rw [hfin]; exact beq_b _) | simp)) (k := ?_)
                    refine v0 (k := ?_)
                    refine v0 (k := ?_)
                    refine pcw (spec := l_alive) (hent := ent14) (k := ?_)
                    refine v0 (k := ?_)
                    refine v0 (k := ?_)
                    refine nil0 ?_
                    repeat refine gwp_seq ?_
                    refine gwp_ret ?_
                    repeat (first | refine gthen_ret ?_ | refine gblock_ret ?_ | refine gnoGoto_ret ?_)
                    refine fin_ret ?_
                    refine fp (hR := ?_)
                    rfl
end Go.Proofs.Ytagdholenfkeaaa
