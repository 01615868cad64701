/- The statement ChainWho: the call returns true for every input, and its arguments read as before; no condition. -/
import Derived.Test.YtagdholenfkeaaaC1
set_option linter.unusedVariables false
set_option linter.unusedSimpArgs false
/- What the document's numbers are: least numbers of unwritten times. No program in sight but for what functions return. -/
namespace Go.Proofs.Ytagdholenfkeaaa
open Go.Gh
theorem tot_link (f : Mx) : ∀ (l : List (Nat × Rc)) (h : Int), totV f (toL h l) = totN f h.toNat (ftL l)
  | [], h => rfl
  | e :: l, h => by
    have := tot_link f l e.2.t
    simp only [toL, totV, leastV, ftL, List.map_cons, totN]
    rw [this]; rfl
theorem steps_tot (f : Mx) (l : List (Nat × Rc)) : totV f (stepsL l) = totN f 0 (ftL l) := by
  rw [stepsL, totV_snoc, tot_link]; simp [leastV]
theorem last_link : ∀ (l : List (Nat × Rc)) (h : Int), (lastH h l).toNat = lastN h.toNat (ftL l)
  | [], h => rfl
  | e :: l, h => by rw [lastH_cons, last_link l]; rfl
theorem last_sel {p : Int} {rs : List Rc} : lastH 0 (selN p (allS rs.length) rs rs.length) = holN p rs rs.length := by
  rw [← last_hol rs.length (fun i hi => all_bit hi)]; rfl
/-- Without a person: the keeper's, whom nothing counts. -/
theorem zero_fold {e eb : Nat → Nat → Bool} : ∀ (l : List (Nat × Nat)) (q : AB), q.A = 1000 → 0 ≤ q.B → q.B ≤ 1000 → (l.foldl (recAB e eb 0) q).A = 1000 ∧ (l.foldl (recAB e eb 0) q).B = min 1000 (q.B + totN (D e) q.h l)
  | [], q, hA, hB, hB2 => by simp only [List.foldl_nil, totN]; exact ⟨hA, by omega⟩
  | z :: l, q, hA, hB, hB2 => by
    have n1 := (D_ok e).nn q.h z.1; have n2 := (D_ok e).nn q.h 0; have n3 := (D_ok e).nn 0 z.1; have n4 := (D_ok eb).nn q.h z.1
    have f0 : Fm e eb 0 q.h q.A q.B z.1 0 = 1000 := by simp only [Fm, reduceIte, hA]; omega
    have f1 : Fm e eb 0 q.h q.A q.B z.1 1 = min 1000 (q.B + D e q.h z.1) := by simp only [Fm, Nat.one_ne_zero, reduceIte, hA]; omega
    have hz : recAB e eb 0 q z = ⟨z.2, 1000, min 1000 (q.B + D e q.h z.1)⟩ := by
      rw [recAB, f0, f1, mkAB]
      split
      · congr 1; omega
      · rfl
    rw [List.foldl_cons, hz]
    obtain ⟨h1, h2⟩ := zero_fold l ⟨z.2, 1000, min 1000 (q.B + D e q.h z.1)⟩ rfl (by simp only; omega) (by simp only; omega)
    refine ⟨h1, ?_⟩
    have := totN_nn (D_ok e) l z.2
    rw [h2, totN]; simp only; omega
theorem zero_aft {e eb : Nat → Nat → Bool} {P : Nat} (he : ∀ a b, e a b = true → a < P ∧ b < P) (hb : ∀ a b, eb a b = true ↔ e a b = true ∧ a ≠ 0 ∧ b ≠ 0) (hP : P ≤ 8) (hw : 0 < P) {l : List (Nat × Nat)} (hl : ∀ z ∈ l, z.1 < P ∧ z.2 < P) (x : Nat) :
    aftG e 0 P l x 0 = 1000 ∧ aftG e 0 P l x 1 = min 1000 (totN (D e) 0 l + D e (lastN 0 l) x) := by
  obtain ⟨hq, h⟩ := aft_eq he hb hP hw hl
  have hmk : mkAB 0 0 0 1000 = ⟨0, 1000, 0⟩ := by rw [mkAB, if_pos rfl]; rfl
  have hh : (endAB e eb 0 l).h = lastN 0 l := by rw [endAB, fold_h, hmk]
  obtain ⟨hA, hB⟩ := zero_fold (e := e) (eb := eb) l ⟨0, 1000, 0⟩ rfl (by simp only; omega) (by simp only; omega)
  rw [← hmk] at hA hB
  have hA' : (endAB e eb 0 l).A = 1000 := hA
  have hB' : (endAB e eb 0 l).B = min 1000 (totN (D e) 0 l) := by
    have hB2 : (endAB e eb 0 l).B = min 1000 ((mkAB 0 0 0 1000).B + totN (D e) (mkAB 0 0 0 1000).h l) := hB
    rw [hmk] at hB2; simpa using hB2
  have n0 := totN_nn (D_ok e) l 0
  have n1 := (D_ok e).nn (lastN 0 l) x; have n2 := (D_ok e).nn (lastN 0 l) 0; have n3 := (D_ok e).nn 0 x; have n4 := (D_ok eb).nn (lastN 0 l) x
  rw [h x 0 (by omega), h x 1 (by omega), hA', hB', hh]
  constructor
  · simp only [Fm, reduceIte]; omega
  · simp only [Fm, Nat.one_ne_zero, reduceIte]; omega
/-- Who hands over, without a person. -/
theorem eF_iff (l : List Kw) (w : Nat) : ∀ a b, eF l (w : Nat) a b = true ↔ kE l a b = true ∧ a ≠ w ∧ b ≠ w := fun a b => by
  simp only [eF, kE, Bool.and_eq_true, Bool.not_eq_true', decide_eq_false_iff_not]
  rw [show ((a : Int) = (w : Int)) ↔ a = w by omega, show ((b : Int) = (w : Int)) ↔ b = w by omega]
  exact ⟨fun h => ⟨h.2, h.1.1, h.1.2⟩, fun h => ⟨⟨h.2.1, h.2.2⟩, h.1⟩⟩
theorem selC_lt {c : Ch} (hv : c.valid = true) (p : Int) (set : Nat) : ∀ z ∈ selC c p set, z.1 < c.ps.toNat ∧ z.2 < c.ps.toNat := fun z hz => by
  obtain ⟨e, he, rfl⟩ := List.mem_map.1 hz
  have := valid_rs hv (List.mem_of_getElem? (sel_mem _ e he).2.1)
  simp only; omega
theorem selC_len (c : Ch) (p : Int) (set : Nat) : (selC c p set).length ≤ c.rs.length := by
  rw [selC, ftL, List.length_map]; exact sel_le _
theorem lastN_lt {P : Nat} : ∀ (l : List (Nat × Nat)) (h : Nat), h < P → (∀ z ∈ l, z.1 < P ∧ z.2 < P) → lastN h l < P
  | [], _, hh, _ => hh
  | z :: l, _, _, hl => lastN_lt l z.2 (hl z (by simp)).2 fun y hy => hl y (List.mem_cons_of_mem _ hy)
/-- The least number of a plate. -/
def totC (c : Ch) (p : Int) (set : Nat) : Int := totN (D (kE c.kn)) 0 (selC c p set)
theorem totC_nn (c : Ch) (p : Int) (set : Nat) : 0 ≤ totC c p set := totN_nn (D_ok _) _ _
theorem minS_le {S : Mx} {x : Nat} : ∀ k, x < k → minS S k ≤ S x 1
  | k + 1, h => by
    simp only [minS]
    by_cases e : x = k
    · subst e; omega
    · have := minS_le (S := S) k (show x < k by omega); omega
theorem minS_top {S : Mx} : ∀ k, minS S k ≤ 1000
  | 0 => by simp [minS]
  | k + 1 => by have := minS_top (S := S) k; simp only [minS]; omega
theorem minS_ge {S : Mx} {X : Int} (h0 : X ≤ 1000) (h : ∀ x, X ≤ S x 0 ∧ X ≤ S x 1) : ∀ k, X ≤ minS S k
  | 0 => by simpa [minS] using h0
  | k + 1 => by have := minS_ge h0 h k; have := h k; simp only [minS]; omega
theorem aft_state {c : Ch} (hv : c.valid = true) (p : Int) (set x : Nat) : aftG (kE c.kn) 0 c.ps.toNat (selC c p set) x 0 = 1000 ∧ aftG (kE c.kn) 0 c.ps.toNat (selC c p set) x 1 = min 1000 (totC c p set + D (kE c.kn) (lastN 0 (selC c p set)) x) := by
  have hn := valid_num hv
  exact zero_aft (kE_in hv) (eF_iff c.kn 0) (by omega) (by omega) (selC_lt hv p set) x
theorem ned_eq {c : Ch} (hv : c.valid = true) (p : Int) (set : Nat) : nedV c p set = min 1000 (totC c p set) := by
  have hn := valid_num hv
  have hs := aft_state hv p set
  have hl := lastN_lt (P := c.ps.toNat) (selC c p set) 0 (by omega) (selC_lt hv p set)
  have z := (D_ok (kE c.kn)).zz (lastN 0 (selC c p set))
  have h1 := minS_le (S := aftG (kE c.kn) 0 c.ps.toNat (selC c p set)) c.ps.toNat hl
  have h2 := minS_top (S := aftG (kE c.kn) 0 c.ps.toNat (selC c p set)) c.ps.toNat
  have h3 := minS_ge (S := aftG (kE c.kn) 0 c.ps.toNat (selC c p set)) (X := min 1000 (totC c p set)) (by omega) (fun x => by
    have := hs x
    have := (D_ok (kE c.kn)).nn (lastN 0 (selC c p set)) x
    omega) c.ps.toNat
  have := (hs (lastN 0 (selC c p set))).2
  simp only [nedV]
  omega
/-- All plates. -/
def sumC (c : Ch) (set : Nat) : Nat → Int
  | 0 => 0
  | k + 1 => sumC c set k + totC c (k : Nat) set
theorem sum_link (c : Ch) (set : Nat) : ∀ k, allV (D (eF c.kn (-1))) c.rs set k = sumC c set k
  | 0 => rfl
  | k + 1 => by rw [allV, sumC, sum_link c set k, steps_tot, eF_kE]; rfl
theorem sumC_nn (c : Ch) (set : Nat) : ∀ k, 0 ≤ sumC c set k
  | 0 => by simp [sumC]
  | k + 1 => by have := sumC_nn c set k; have := totC_nn c (k : Nat) set; simp only [sumC]; omega
theorem ned_all {c : Ch} (hv : c.valid = true) (set : Nat) : ∀ k, nedR c set (-1) k ≤ sumC c set k ∧ 0 ≤ nedR c set (-1) k ∧ (nedR c set (-1) k < 1000 → nedR c set (-1) k = sumC c set k)
  | 0 => by simp [nedR, sumC]
  | k + 1 => by
    obtain ⟨h1, h2, h3⟩ := ned_all hv set k
    have h4 := ned_eq hv (k : Nat) set
    have h5 := totC_nn c (k : Nat) set
    simp only [nedR, sumC]
    rw [if_pos (by omega)]
    omega
theorem ned_but {c : Ch} (set p : Nat) : ∀ k, nedR c set (p : Nat) k + (if p < k then nedV c (p : Nat) set else 0) = nedR c set (-1) k
  | 0 => by simp [nedR]
  | k + 1 => by
    have := ned_but (c := c) set p k
    simp only [nedR]
    rw [if_pos (show ¬ ((k : Nat) : Int) = -1 by omega)]
    by_cases e : k = p
    · subst e
      rw [if_neg (by omega), if_pos (by omega)]
      rw [if_neg (by omega)] at this
      omega
    · rw [if_pos (by omega)]
      by_cases h : p < k
      · rw [if_pos (by omega)]; rw [if_pos h] at this; omega
      · rw [if_neg (by omega)]; rw [if_neg h] at this; omega
theorem totN_fin {e : Nat → Nat → Bool} {P : Nat} (hP : P ≤ 8) (he : ∀ a b, e a b = true → a < P ∧ b < P) : ∀ (l : List (Nat × Nat)) (h : Nat), h < P → (∀ z ∈ l, z.1 < P ∧ z.2 < P) → totN (D e) h l < NEV → totN (D e) h l ≤ 8 * l.length
  | [], _, _, _, _ => by simp [totN]
  | z :: l, h, hh, hl, hx => by
    have hz := hl z (by simp)
    have n1 := (D_ok e).nn h z.1
    have n2 := totN_nn (D_ok e) l z.2
    simp only [totN] at hx ⊢
    have h1 := D_lt hP he hh (show D e h z.1 < NEV by omega)
    have h2 := totN_fin hP he l z.2 hz.2 (fun y hy => hl y (List.mem_cons_of_mem _ hy)) (by omega)
    simp only [List.length_cons]; omega
theorem sum_fin {c : Ch} (hv : c.valid = true) (set : Nat) : ∀ k, sumC c set k < NEV → sumC c set k ≤ 96 * k
  | 0, _ => by simp [sumC]
  | k + 1, h => by
    have hn := valid_num hv
    have n1 := sumC_nn c set k
    have n2 := totC_nn c (k : Nat) set
    simp only [sumC] at h ⊢
    have h1 := sum_fin hv set k (by omega)
    have h2 := totN_fin (by omega) (kE_in hv) (selC c (k : Nat) set) 0 (by omega) (selC_lt hv _ _) (show totN (D (kE c.kn)) 0 (selC c (k : Nat) set) < NEV by
      have : totC c (k : Nat) set < NEV := by omega
      exact this)
    have h3 := selC_len c (k : Nat) set
    have h4 : totC c (k : Nat) set ≤ 8 * (selC c (k : Nat) set).length := h2
    omega
theorem least_eq (c : Ch) : leastC c = sumC c (allS c.rs.length) c.pl.toNat := sum_link c _ _
/-- The document's least number, and the program's. -/
theorem least_doc {c : Ch} (hv : c.valid = true) : (leastC c < 1048576 → nedR c (allS c.rs.length) (-1) c.pl.toNat = leastC c ∧ leastC c < 1000) ∧ (¬ leastC c < 1048576 → 1000 ≤ nedR c (allS c.rs.length) (-1) c.pl.toNat) := by
  have hn := valid_num hv
  obtain ⟨h1, h2, h3⟩ := ned_all hv (allS c.rs.length) c.pl.toNat
  have h4 := sum_fin hv (allS c.rs.length) c.pl.toNat
  simp only [NEV] at h4
  rw [least_eq]
  constructor
  · intro h
    have := h4 h
    exact ⟨h3 (by omega), by omega⟩
  · intro h
    by_cases hc : 1000 ≤ nedR c (allS c.rs.length) (-1) c.pl.toNat
    · exact hc
    · have := h3 (by omega); omega
theorem small_doc {c : Ch} (hv : c.valid = true) (set : Nat) {X : Int} (hX : X < 1000) : nedR c set (-1) c.pl.toNat ≤ X ↔ sumC c set c.pl.toNat ≤ X := by
  obtain ⟨h1, h2, h3⟩ := ned_all hv set c.pl.toNat
  constructor
  · intro h; rw [← h3 (by omega)]; exact h
  · intro h; omega
end Go.Proofs.Ytagdholenfkeaaa

/- By way of a person, and without: what the document's states come to. -/
namespace Go.Proofs.Ytagdholenfkeaaa
open Go.Gh
def byV2 (f : Mx) (w : Nat) : Nat → List (Nat × Nat) → Int → Prop
  | h, [], X => f h w ≤ X
  | h, z :: l, X => f h w + f w z.1 + totN f z.2 l ≤ X ∨ byV2 f w z.2 l (X - f h z.1)
section
variable {e eb : Nat → Nat → Bool} {who P : Nat}
theorem by_mono {f : Mx} {w : Nat} : ∀ (l : List (Nat × Nat)) (h : Nat) (X Y : Int), X ≤ Y → byV2 f w h l X → byV2 f w h l Y
  | [], _, _, _, hXY, hx => Int.le_trans hx hXY
  | z :: l, h, X, Y, hXY, hx => hx.imp (fun h => by omega) fun h1 => by_mono l z.2 _ _ (by omega) h1
theorem by_tot (hw : who < 8) : ∀ (l : List (Nat × Nat)) (h : Nat) (X : Int), byV2 (D e) who h l X → totN (D e) h l ≤ X
  | [], h, X, hx => by have := (D_ok e).nn h who; have hx : D e h who ≤ X := hx; simp only [totN]; omega
  | z :: l, h, X, hx => by
    simp only [totN]
    rcases hx with hx | hx
    · have := D_tri e hw h z.1; omega
    · have := by_tot hw l z.2 _ hx; omega
theorem by_who : ∀ (l : List (Nat × Nat)) (X : Int), totN (D e) who l ≤ X → byV2 (D e) who who l X
  | [], X, hx => by have := (D_ok e).zz who; simp only [totN] at hx; show D e who who ≤ X; omega
  | z :: l, X, hx => by have := (D_ok e).zz who; simp only [totN] at hx; exact .inl (by omega)
theorem mkAB_A (h : Nat) (A B : Int) : (mkAB who h A B).A = if h = who then 1000 else A := by unfold mkAB; split <;> rfl
theorem mkAB_B (h : Nat) (A B : Int) : (mkAB who h A B).B = if h = who then min A B else B := by unfold mkAB; split <;> rfl
theorem mkAB_h (h : Nat) (A B : Int) : (mkAB who h A B).h = h := by unfold mkAB; split <;> rfl
variable (he : ∀ a b, e a b = true → a < P ∧ b < P) (hb : ∀ a b, eb a b = true ↔ e a b = true ∧ a ≠ who ∧ b ≠ who) (hP : P ≤ 8) (hw : who < P)
include he hb hP hw
theorem fold_touch {K : Int} (hK : K < 1000) : ∀ (l : List (Nat × Nat)) (q : AB), (∀ z ∈ l, z.1 < P ∧ z.2 < P) → q.Ok who P →
    (min (l.foldl (recAB e eb who) q).B ((l.foldl (recAB e eb who) q).A + D e (l.foldl (recAB e eb who) q).h who) ≤ K ↔ q.B + totN (D e) q.h l ≤ K ∨ byV2 (D e) who q.h l (K - q.A))
  | [], q, _, _ => by simp only [List.foldl_nil, totN, byV2]; omega
  | z :: l, q, hl, hq => by
    have hz := hl z (by simp)
    have n1 := (D_ok e).nn q.h z.1; have n2 := (D_ok e).nn q.h who; have n3 := (D_ok e).nn who z.1; have n4 := (D_ok eb).nn q.h z.1
    have n5 := totN_nn (D_ok e) l z.2
    have b0 := Fm_bd (e := e) (eb := eb) hq (x := z.1) (k := 0) (by omega)
    have b1 := Fm_bd (e := e) (eb := eb) hq (x := z.1) (k := 1) (by omega)
    have f0 : Fm e eb who q.h q.A q.B z.1 0 = min 1000 (q.A + D eb q.h z.1) := by simp only [Fm, reduceIte]
    have f1 : Fm e eb who q.h q.A q.B z.1 1 = min 1000 (min (q.B + D e q.h z.1) (q.A + D e q.h who + D e who z.1)) := by simp only [Fm, Nat.one_ne_zero, reduceIte]
    have ih := fold_touch hK l (recAB e eb who q z) (fun y hy => hl y (List.mem_cons_of_mem _ hy)) (mkAB_ok hz.2 b0 b1)
    rw [List.foldl_cons, ih, recAB, mkAB_A, mkAB_B, mkAB_h, f0, f1]
    have he8 : ∀ a b, e a b = true → a < 8 ∧ b < 8 := fun a b x => by have := he a b x; omega
    have hmono := D_mono (e := eb) he8 (fun i j q => ((hb i j).1 q).1) q.h z.1
    have hqA := hq.A; have hqB := hq.B
    simp only [totN, byV2]
    constructor
    · rintro (h | h)
      · by_cases ht : z.2 = who
        · rw [if_pos ht] at h
          by_cases h1 : q.B + D e q.h z.1 + totN (D e) z.2 l ≤ K
          · exact .inl (by omega)
          · by_cases h2 : q.A + D e q.h who + D e who z.1 + totN (D e) z.2 l ≤ K
            · exact .inr (.inl (by omega))
            · refine .inr (.inr ?_)
              rw [ht] at h ⊢
              rw [ht] at h1 h2 n5
              exact by_who l _ (by omega)
        · rw [if_neg ht] at h
          by_cases h1 : q.B + D e q.h z.1 + totN (D e) z.2 l ≤ K
          · exact .inl (by omega)
          · exact .inr (.inl (by omega))
      · by_cases ht : z.2 = who
        · rw [if_pos ht] at h
          have := by_tot (show who < 8 by omega) l z.2 _ h; omega
        · rw [if_neg ht] at h
          by_cases h1 : q.A + D eb q.h z.1 ≤ 1000
          · exact .inr (.inr (by_mono l z.2 _ _ (by omega) h))
          · have := by_tot (show who < 8 by omega) l z.2 _ h; omega
    · rintro (h | h | h)
      · refine .inl ?_
        split <;> omega
      · refine .inl ?_
        split <;> omega
      · have htt := by_tot (show who < 8 by omega) l z.2 _ h
        have hne : q.h ≠ who := fun e => by have := hq.w e; omega
        rcases past he hb hP hq.h hz.1 hne with hd | hd
        · by_cases ht : z.2 = who
          · refine .inl ?_
            rw [if_pos ht]; omega
          · refine .inr ?_
            rw [if_neg ht]
            exact by_mono l z.2 _ _ (by omega) h
        · refine .inl ?_
          split <;> omega
omit he hP hw in
theorem fold_non {K : Int} (hK : K < 1000) : ∀ (l : List (Nat × Nat)) (q : AB), (∀ z ∈ l, z.1 < P ∧ z.2 < P) → q.Ok who P →
    ((l.foldl (recAB e eb who) q).A ≤ K ↔ q.A + totN (D eb) q.h l ≤ K ∧ ∀ z ∈ l, z.1 ≠ who ∧ z.2 ≠ who)
  | [], q, _, _ => by simp only [List.foldl_nil, totN]; constructor <;> intro h <;> first | exact ⟨by omega, fun z hz => by cases hz⟩ | (have := h.1; omega)
  | z :: l, q, hl, hq => by
    have hz := hl z (by simp)
    have n4 := (D_ok eb).nn q.h z.1
    have n5 := totN_nn (D_ok eb) l z.2
    have b0 := Fm_bd (e := e) (eb := eb) hq (x := z.1) (k := 0) (by omega)
    have b1 := Fm_bd (e := e) (eb := eb) hq (x := z.1) (k := 1) (by omega)
    have f0 : Fm e eb who q.h q.A q.B z.1 0 = min 1000 (q.A + D eb q.h z.1) := by simp only [Fm, reduceIte]
    have ih := fold_non hK l (recAB e eb who q z) (fun y hy => hl y (List.mem_cons_of_mem _ hy)) (mkAB_ok hz.2 b0 b1)
    rw [List.foldl_cons, ih, recAB, mkAB_A, mkAB_h, f0]
    have hqA := hq.A
    simp only [totN, List.forall_mem_cons]
    constructor
    · rintro ⟨h1, h2⟩
      by_cases ht : z.2 = who
      · rw [if_pos ht] at h1; omega
      · rw [if_neg ht] at h1
        refine ⟨by omega, ⟨fun hf => ?_, ht⟩, h2⟩
        by_cases hne : q.h = who
        · have := hq.w hne; omega
        · have := into (e := e) (eb := eb) hb hne
          simp only [NEV] at this
          rw [hf] at h1; omega
    · rintro ⟨h1, ⟨h3, h4⟩, h2⟩
      rw [if_neg h4]
      exact ⟨by omega, h2⟩
/-- By way of a person: at the end. -/
theorem end_touch {K : Int} (hK : K < 1000) {l : List (Nat × Nat)} (hl : ∀ z ∈ l, z.1 < P ∧ z.2 < P) : (∃ i, i < P ∧ aftG e who P l i 1 ≤ K) ↔ byV2 (D e) who 0 l K := by
  obtain ⟨hq, hs⟩ := aft_eq he hb hP hw hl
  have key : (∃ i, i < P ∧ aftG e who P l i 1 ≤ K) ↔ min (endAB e eb who l).B ((endAB e eb who l).A + D e (endAB e eb who l).h who) ≤ K := by
    constructor
    · rintro ⟨i, hi, h⟩
      rw [hs i 1 (by omega)] at h
      have n1 := (D_ok e).nn (endAB e eb who l).h i; have n3 := (D_ok e).nn who i
      simp only [Fm, Nat.one_ne_zero, reduceIte] at h
      omega
    · intro h
      have z1 := (D_ok e).zz (endAB e eb who l).h; have z2 := (D_ok e).zz who
      by_cases h1 : (endAB e eb who l).B ≤ K
      · refine ⟨_, hq.h, ?_⟩
        rw [hs _ 1 (by omega)]
        simp only [Fm, Nat.one_ne_zero, reduceIte]; omega
      · refine ⟨who, hw, ?_⟩
        rw [hs _ 1 (by omega)]
        simp only [Fm, Nat.one_ne_zero, reduceIte]; omega
  rw [key, endAB, fold_touch he hb hP hw hK l _ hl (mkAB_ok (by omega) (by omega) (by omega)), mkAB_A, mkAB_B, mkAB_h]
  have n0 := totN_nn (D_ok e) l 0
  by_cases h0 : 0 = who
  · rw [if_pos h0, if_pos h0]
    subst h0
    constructor
    · rintro (h | h)
      · exact by_who l _ (by omega)
      · have := by_tot (show 0 < 8 by omega) l 0 _ h
        exact by_who l _ (by omega)
    · intro h
      have := by_tot (show 0 < 8 by omega) l 0 _ h
      exact .inl (by omega)
  · rw [if_neg h0, if_neg h0]
    constructor
    · rintro (h | h)
      · omega
      · exact by_mono l 0 _ _ (by omega) h
    · intro h
      exact .inr (by_mono l 0 _ _ (by omega) h)
/-- Without a person: at the end. -/
theorem end_non {K : Int} (hK : K < 1000) {l : List (Nat × Nat)} (hl : ∀ z ∈ l, z.1 < P ∧ z.2 < P) : (∃ i, i < P ∧ aftG e who P l i 0 ≤ K) ↔ totN (D eb) 0 l ≤ K ∧ 0 ≠ who ∧ ∀ z ∈ l, z.1 ≠ who ∧ z.2 ≠ who := by
  obtain ⟨hq, hs⟩ := aft_eq he hb hP hw hl
  have key : (∃ i, i < P ∧ aftG e who P l i 0 ≤ K) ↔ (endAB e eb who l).A ≤ K := by
    constructor
    · rintro ⟨i, hi, h⟩
      rw [hs i 0 (by omega)] at h
      have n1 := (D_ok eb).nn (endAB e eb who l).h i
      simp only [Fm, reduceIte] at h
      omega
    · intro h
      have z1 := (D_ok eb).zz (endAB e eb who l).h
      refine ⟨_, hq.h, ?_⟩
      rw [hs _ 0 (by omega)]
      simp only [Fm, reduceIte]; omega
  rw [key, endAB, fold_non hb hK l _ hl (mkAB_ok (by omega) (by omega) (by omega)), mkAB_A, mkAB_h]
  have n0 := totN_nn (D_ok eb) l 0
  by_cases h0 : 0 = who
  · rw [if_pos h0]
    constructor
    · rintro ⟨h, _⟩; omega
    · rintro ⟨_, h, _⟩; exact absurd h0 h
  · rw [if_neg h0]
    constructor
    · rintro ⟨h, h2⟩; exact ⟨by omega, h0, h2⟩
    · rintro ⟨h, _, h2⟩; exact ⟨by omega, h2⟩
end
/-- Which step goes by way of a person. -/
def byE (f : Mx) (w : Nat) (more : Int) : Nat → List (Nat × Nat) → Prop
  | h, [] => f h w ≤ more
  | h, z :: l => f h w + f w z.1 - f h z.1 ≤ more ∨ byE f w more z.2 l
theorem byE_iff {f : Mx} {w : Nat} {more : Int} : ∀ (l : List (Nat × Nat)) (h : Nat), byV2 f w h l (totN f h l + more) ↔ byE f w more h l
  | [], h => by simp only [byV2, byE, totN]; omega
  | z :: l, h => by
    have ih := byE_iff (f := f) (w := w) (more := more) l z.2
    simp only [byV2, byE, totN]
    rw [← ih, show f h z.1 + totN f z.2 l + more - f h z.1 = totN f z.2 l + more by omega]
    constructor
    · rintro (h | h)
      · exact .inl (by omega)
      · exact .inr h
    · rintro (h | h)
      · exact .inl (by omega)
      · exact .inr h
theorem via_iff {f : Mx} {w : Nat} {more : Int} : ∀ (l : List (Nat × Rc)) (h : Int), (toL h l ++ [Ytagdholenfkeaaa.St.mk (lastH h l) none]).any (viaQ f more w) = true ↔ byE f w more h.toNat (ftL l)
  | [], h => by simp [toL, lastH, viaQ, byV, leastV, byE, ftL]
  | e :: l, h => by
    rw [lastH_cons, toL, List.cons_append, List.any_cons, Bool.or_eq_true, via_iff l e.2.t]
    simp only [viaQ, byV, leastV, ftL, List.map_cons, byE]
    exact or_congr_left ⟨fun h => of_decide_eq_true h, fun h => decide_eq_true h⟩
theorem with_bit {u : Nat} : ∀ (l : List Nat) (s : Nat), (withN s l).testBit u = (s.testBit u || l.contains u)
  | [], s => by simp [withN]
  | x :: l, s => by
    have := with_bit (u := u) l (s ||| 2 ^ x)
    simp only [withN, List.foldl_cons] at this ⊢
    rw [this, Nat.testBit_or, Nat.testBit_two_pow, List.contains_cons, Bool.or_assoc]
    congr 2
    by_cases h : x = u
    · simp [h]
    · rw [decide_eq_false h]
      simp [Ne.symm h]
theorem named_iff (l : List (Nat × Rc)) (u : Nat) : (namedN l).testBit u = true ↔ 0 = u ∨ ∃ z ∈ ftL l, z.1 = u ∨ z.2 = u := by
  rw [namedN, with_bit, Bool.or_eq_true]
  have h1 : Nat.testBit 1 u = true ↔ 0 = u := by
    rw [show (1 : Nat) = 2 ^ 0 from rfl, Nat.testBit_two_pow]; simp
  rw [h1]
  simp only [List.contains_iff_mem, List.mem_flatMap, ftL, List.mem_map, List.mem_cons, List.not_mem_nil, or_false]
  constructor
  · rintro (h | ⟨e, he, h⟩)
    · exact .inl h
    · exact .inr ⟨_, ⟨e, he, rfl⟩, h.imp Eq.symm Eq.symm⟩
  · rintro (h | ⟨_, ⟨e, he, rfl⟩, h⟩)
    · exact .inl h
    · exact .inr ⟨e, he, h.imp Eq.symm Eq.symm⟩
theorem named_by {f : Mx} (hf : MOk f) {w : Nat} {more : Int} (hm : 0 ≤ more) : ∀ (l : List (Nat × Nat)) (h : Nat), (h = w ∨ ∃ z ∈ l, z.1 = w ∨ z.2 = w) → byE f w more h l
  | [], h, hx => by
    rcases hx with rfl | ⟨z, hz, _⟩
    · have := hf.zz h; simp only [byE]; omega
    · cases hz
  | z :: l, h, hx => by
    simp only [byE]
    have zz := hf.zz w
    rcases hx with rfl | ⟨y, hy, hyw⟩
    · exact .inl (by omega)
    · rcases List.mem_cons.1 hy with rfl | hy
      · rcases hyw with h1 | h1
        · exact .inl (by rw [h1]; omega)
        · exact .inr (named_by hf hm l _ (.inl h1))
      · exact .inr (named_by hf hm l _ (.inr ⟨y, hy, hyw⟩))
end Go.Proofs.Ytagdholenfkeaaa

/- The document's sets are the program's. -/
namespace Go.Proofs.Ytagdholenfkeaaa
open Go.Gh
/-- A set by sums. -/
def setP (q : Nat → Bool) : Nat → Nat
  | 0 => 0
  | k + 1 => if q k = true then setP q k + 2 ^ k else setP q k
theorem setP_lt (q : Nat → Bool) : ∀ k, setP q k < 2 ^ k
  | 0 => by simp [setP]
  | k + 1 => by
    have := setP_lt q k
    have := Nat.pow_succ 2 k
    simp only [setP]; split <;> omega
theorem setP_8 (q : Nat → Bool) {k : Nat} (h : k ≤ 8) : setP q k < 256 := Nat.lt_of_lt_of_le (setP_lt q k) (Nat.pow_le_pow_right (by omega) h : 2 ^ k ≤ 2 ^ 8)
theorem or_add {x k : Nat} (h : x < 2 ^ k) : x ||| 2 ^ k = x + 2 ^ k := by
  have := Nat.two_pow_add_eq_or_of_lt h 1
  rw [Nat.mul_one] at this
  rw [Nat.or_comm, ← this]; omega
theorem setP_congr {p q : Nat → Bool} : ∀ n, (∀ i, i < n → p i = q i) → setP p n = setP q n
  | 0, _ => rfl
  | n + 1, h => by rw [setP, setP, setP_congr n fun i hi => h i (by omega), h n (by omega)]
theorem setP_N (q : Nat → Bool) : ∀ k, setP q k = setN q k
  | 0 => rfl
  | k + 1 => by
    rw [setP, setN, ← setP_N q k]
    split
    · rw [or_add (setP_lt q k)]
    · rfl
theorem setP_W (f : Mx) (h : Nat) (more : Int) : ∀ k, setP (fun k => decide (f h k ≤ more)) k = whereN f h more k
  | 0 => rfl
  | k + 1 => by
    rw [setP, whereN, ← setP_W f h more k]
    by_cases hc : f h k ≤ more
    · rw [if_pos (decide_eq_true hc), if_pos hc, or_add (setP_lt _ k)]
    · rw [if_neg (by simp [hc]), if_neg hc]
theorem one_bit : ∀ l, l < 256 → ∀ x, x < 8 → (l = 2 ^ x ↔ (l.testBit x = true ∧ pop l = 1)) := by decide +kernel
theorem setP_can {c : Ch} {x : Nat} : ∀ k, setP (fun k => (whereC c (k : Nat)).testBit x) k = canH c x k
  | 0 => rfl
  | k + 1 => by
    rw [setP, canH, ← setP_can k]
    split
    · rw [or_add (setP_lt _ k)]
    · rfl
theorem setP_sure {c : Ch} (hv : c.valid = true) {x : Nat} (hx : x < 8) : ∀ k, setP (fun k => decide (whereC c (k : Nat) = 2 ^ x)) k = sureH c x k
  | 0 => rfl
  | k + 1 => by
    rw [setP, sureH, ← setP_sure hv hx k]
    have h1 := one_bit (whereC c (k : Nat)) (whereC_lt hv _) x hx
    by_cases hc : whereC c (k : Nat) = 2 ^ x
    · rw [if_pos (decide_eq_true hc), if_pos (h1.1 hc), or_add (setP_lt _ k)]
    · rw [if_neg (by simp [hc]), if_neg fun h => hc (h1.2 h)]
/-! What is left for a plate -/
section
variable {c : Ch} (hv : c.valid = true) (hc : leastC c ≤ c.ms)
include hv hc
/-- Of a chain that has a truth: what the other plates take. -/
theorem others {p : Nat} (hp : (p : Int) < c.pl) : nedR c (allS c.rs.length) (p : Nat) c.pl.toNat = leastC c - totC c (p : Nat) (allS c.rs.length) ∧ totC c (p : Nat) (allS c.rs.length) ≤ leastC c := by
  have hn := valid_num hv
  have h1 := ((least_doc hv).1 (by omega)).1
  have h2 := ned_but (c := c) (allS c.rs.length) p c.pl.toNat
  rw [if_pos (by omega), h1, ned_eq hv] at h2
  have h3 := totC_nn c (p : Nat) (allS c.rs.length)
  have h4 := (nedR_in c (allS c.rs.length) (p : Nat) c.pl.toNat).1
  omega
theorem where_doc {p : Nat} (hp : (p : Int) < c.pl) : setP (fun k => decide (min (aftG (kE c.kn) 0 c.ps.toNat (selC c (p : Nat) (allS c.rs.length)) k 0) (aftG (kE c.kn) 0 c.ps.toNat (selC c (p : Nat) (allS c.rs.length)) k 1) + nedR c (allS c.rs.length) (p : Nat) c.pl.toNat ≤ c.ms)) c.ps.toNat = whereC c (p : Nat) := by
  have hn := valid_num hv
  obtain ⟨h1, h2⟩ := others hv hc hp
  rw [whereC, ← setP_W, eF_kE]
  refine setP_congr _ fun k _ => ?_
  have hs := aft_state hv (p : Nat) (allS c.rs.length) k
  have hl : lastN 0 (selC c (p : Nat) (allS c.rs.length)) = (holN (p : Nat) c.rs c.rs.length).toNat := by
    rw [← last_sel, last_link]; rfl
  rw [hl] at hs
  have n1 := (D_ok (kE c.kn)).nn (holN (p : Nat) c.rs c.rs.length).toNat k
  have n2 := totC_nn c (p : Nat) (allS c.rs.length)
  rw [hs.1, hs.2, h1]
  congr 1
  apply propext
  omega
/-- Was a person by way of whom? -/
theorem had_doc {p u : Nat} (hp : (p : Int) < c.pl) (hu : u < c.ps.toNat) : (∃ i, i < c.ps.toNat ∧ aftG (kE c.kn) u c.ps.toNat (selC c (p : Nat) (allS c.rs.length)) i 1 + nedR c (allS c.rs.length) (p : Nat) c.pl.toNat ≤ c.ms) ↔ canQ c (p : Nat) u = true := by
  have hn := valid_num hv
  obtain ⟨h1, h2⟩ := others hv hc hp
  have n2 := totC_nn c (p : Nat) (allS c.rs.length)
  have h3 := end_touch (kE_in hv) (eF_iff c.kn u) (by omega) hu (K := totC c (p : Nat) (allS c.rs.length) + (c.ms - leastC c)) (by omega) (selC_lt hv (p : Nat) (allS c.rs.length))
  have h4 : (∃ i, i < c.ps.toNat ∧ aftG (kE c.kn) u c.ps.toNat (selC c (p : Nat) (allS c.rs.length)) i 1 + nedR c (allS c.rs.length) (p : Nat) c.pl.toNat ≤ c.ms) ↔ ∃ i, i < c.ps.toNat ∧ aftG (kE c.kn) u c.ps.toNat (selC c (p : Nat) (allS c.rs.length)) i 1 ≤ totC c (p : Nat) (allS c.rs.length) + (c.ms - leastC c) := by
    constructor
    · rintro ⟨i, hi, h⟩; exact ⟨i, hi, by omega⟩
    · rintro ⟨i, hi, h⟩; exact ⟨i, hi, by omega⟩
  have h5 : byV2 (D (kE c.kn)) u 0 (selC c (p : Nat) (allS c.rs.length)) (totC c (p : Nat) (allS c.rs.length) + (c.ms - leastC c)) ↔ byE (D (kE c.kn)) u (c.ms - leastC c) 0 (selC c (p : Nat) (allS c.rs.length)) := byE_iff _ _
  have h6 := via_iff (f := D (kE c.kn)) (w := u) (more := c.ms - leastC c) (selN (p : Nat) (allS c.rs.length) c.rs c.rs.length) 0
  rw [h4, h3, h5]
  simp only [canQ, Bool.or_eq_true, eF_kE]
  constructor
  · intro h; exact .inr (h6.2 h)
  · rintro (h | h)
    · refine named_by (D_ok _) (by omega) _ _ ?_
      exact (named_iff _ u).1 h
    · exact h6.1 h
theorem not_doc {p u : Nat} (hp : (p : Int) < c.pl) (hu : u < c.ps.toNat) : (∃ i, i < c.ps.toNat ∧ aftG (kE c.kn) u c.ps.toNat (selC c (p : Nat) (allS c.rs.length)) i 0 + nedR c (allS c.rs.length) (p : Nat) c.pl.toNat ≤ c.ms) ↔ surQ c (p : Nat) u = false := by
  have hn := valid_num hv
  obtain ⟨h1, h2⟩ := others hv hc hp
  have n2 := totC_nn c (p : Nat) (allS c.rs.length)
  have h3 := end_non (kE_in hv) (eF_iff c.kn u) (by omega) hu (K := totC c (p : Nat) (allS c.rs.length) + (c.ms - leastC c)) (by omega) (selC_lt hv (p : Nat) (allS c.rs.length))
  have h4 : (∃ i, i < c.ps.toNat ∧ aftG (kE c.kn) u c.ps.toNat (selC c (p : Nat) (allS c.rs.length)) i 0 + nedR c (allS c.rs.length) (p : Nat) c.pl.toNat ≤ c.ms) ↔ ∃ i, i < c.ps.toNat ∧ aftG (kE c.kn) u c.ps.toNat (selC c (p : Nat) (allS c.rs.length)) i 0 ≤ totC c (p : Nat) (allS c.rs.length) + (c.ms - leastC c) := by
    constructor
    · rintro ⟨i, hi, h⟩; exact ⟨i, hi, by omega⟩
    · rintro ⟨i, hi, h⟩; exact ⟨i, hi, by omega⟩
  rw [h4, h3]
  have h5 := named_iff (selN (p : Nat) (allS c.rs.length) c.rs c.rs.length) u
  have e1 : totV (D (eF c.kn (-1))) (stepsL (selN (p : Nat) (allS c.rs.length) c.rs c.rs.length)) = totC c (p : Nat) (allS c.rs.length) := by rw [steps_tot, eF_kE]; rfl
  have e2 : totV (D (eF c.kn (u : Nat))) (stepsL (selN (p : Nat) (allS c.rs.length) c.rs c.rs.length)) = totN (D (eF c.kn (u : Nat))) 0 (selC c (p : Nat) (allS c.rs.length)) := by rw [steps_tot]; rfl
  simp only [surQ, sureQ, Bool.or_eq_false_iff, decide_eq_false_iff_not, e1, e2]
  constructor
  · rintro ⟨g1, g2, g3⟩
    refine ⟨?_, by omega⟩
    cases hb : (namedN (selN (p : Nat) (allS c.rs.length) c.rs c.rs.length)).testBit u with
    | false => rfl
    | true =>
      rcases h5.1 hb with h | ⟨z, hz, h⟩
      · exact absurd h g2
      · have := g3 z hz; rcases h with h | h
        · exact absurd h this.1
        · exact absurd h this.2
  · rintro ⟨g1, g2⟩
    have g3 : ¬ (0 = u ∨ ∃ z ∈ ftL (selN (p : Nat) (allS c.rs.length) c.rs c.rs.length), z.1 = u ∨ z.2 = u) := fun h => by rw [h5.2 h] at g1; cases g1
    exact ⟨by omega, fun h => g3 (.inl h), fun z hz => ⟨fun h => g3 (.inr ⟨z, hz, .inl h⟩), fun h => g3 (.inr ⟨z, hz, .inr h⟩)⟩⟩
end
/-! The fewest records that must be wrong -/
theorem pop_full : ∀ n, n ≤ 12 → (∀ x, x < 2 ^ n → pop x ≤ n ∧ (pop x = n → x = 2 ^ n - 1)) ∧ pop (2 ^ n - 1) = n
  | 0, _ => ⟨fun x hx => by
      obtain rfl : x = 0 := by simpa using hx
      exact ⟨by rw [pop_zero]; omega, fun _ => rfl⟩, by simpa using pop_zero⟩
  | n + 1, h => by
    obtain ⟨h1, h2⟩ := pop_full n (by omega)
    have hs : 2 ^ (n + 1) = 2 * 2 ^ n := by rw [Nat.pow_succ]; omega
    have hp := Nat.two_pow_pos n
    have h12 : 2 ^ (n + 1) ≤ 2 ^ 12 := Nat.pow_le_pow_right (by omega) h
    refine ⟨fun x hx => ?_, ?_⟩
    · have := pop_half (m := x) (by omega)
      have := h1 (x / 2) (by omega)
      refine ⟨by omega, fun he => ?_⟩
      have := this.2 (by omega)
      omega
    · have := pop_half (m := 2 ^ (n + 1) - 1) (by omega)
      rw [show (2 ^ (n + 1) - 1) / 2 = 2 ^ n - 1 by omega, show (2 ^ (n + 1) - 1) % 2 = 1 by omega, h2] at this
      omega
theorem rest_sub {n s : Nat} (hn : n ≤ 12) (hs : s ≤ allS n) : restS n s = allS n - s := by
  have h12 : 2 ^ n ≤ 2 ^ 12 := Nat.pow_le_pow_right (by omega) hn
  have hp := Nat.two_pow_pos n
  simp only [restS, allS] at hs ⊢
  apply Nat.eq_of_testBit_eq
  intro i
  rw [Nat.testBit_and, Nat.testBit_two_pow_sub_one, show 2 ^ 64 - 1 - s = 2 ^ 64 - (s + 1) by omega, show 2 ^ n - 1 - s = 2 ^ n - (s + 1) by omega, Nat.testBit_two_pow_sub_succ (by omega), Nat.testBit_two_pow_sub_succ (by omega)]
  by_cases hi : i < n
  · rw [decide_eq_true hi, decide_eq_true (show i < 64 by omega)]
    rw [Bool.true_and]
  · rw [decide_eq_false hi, Bool.false_and, Bool.false_and]
/-- The document's best, of the first sets. -/
def bestR (c : Ch) : Nat → Nat
  | 0 => allS c.rs.length
  | k + 1 => if pop k < pop (bestR c k) ∧ nedR c (allS c.rs.length - k) (-1) c.pl.toNat ≤ c.ms then k else bestR c k
theorem bestR_le (c : Ch) : ∀ k, k ≤ allS c.rs.length + 1 → bestR c k ≤ allS c.rs.length
  | 0, _ => Nat.le_refl _
  | k + 1, h => by
    have := bestR_le c k (by omega)
    simp only [bestR]; split <;> omega
theorem ok_doc {c : Ch} (hv : c.valid = true) {s : Nat} (hs : s ≤ allS c.rs.length) : okD c s = true ↔ nedR c (allS c.rs.length - s) (-1) c.pl.toNat ≤ c.ms := by
  have hn := valid_num hv
  rw [small_doc hv _ (by omega), okD, decide_eq_true_iff, sum_link, rest_sub (by omega) hs]
theorem sel_zero {p : Int} {rs : List Rc} : ∀ k, selN p 0 rs k = []
  | 0 => rfl
  | k + 1 => by
    simp only [selN]
    split
    · rw [if_neg (by simp), sel_zero k]
    · exact sel_zero k
theorem sum_zero (c : Ch) : ∀ k, sumC c 0 k = 0
  | 0 => rfl
  | k + 1 => by rw [sumC, sum_zero c k, totC, selC, sel_zero]; rfl
theorem ok_all {c : Ch} (hv : c.valid = true) : okD c (allS c.rs.length) = true := by
  have hn := valid_num hv
  rw [ok_doc hv (Nat.le_refl _), small_doc hv _ (by omega), Nat.sub_self, sum_zero]
  omega
theorem best_inv {c : Ch} (hv : c.valid = true) : ∀ k, k ≤ allS c.rs.length + 1 →
    okD c (bestR c k) = true ∧ (∀ s, s < k → okD c s = true → pop (bestR c k) ≤ pop s) ∧ ∀ s, s < k → s < bestR c k → okD c s = true → bestR c k ≠ allS c.rs.length → pop (bestR c k) < pop s
  | 0, _ => ⟨ok_all hv, fun s hs => by omega, fun s hs => by omega⟩
  | k + 1, h => by
    obtain ⟨h1, h2, h3⟩ := best_inv hv k (by omega)
    have hk := ok_doc hv (s := k) (by omega)
    simp only [bestR]
    split
    · rename_i hc
      refine ⟨hk.2 hc.2, fun s hs ho => ?_, fun s hs hsk ho _ => ?_⟩
      · by_cases e : s = k
        · subst e; omega
        · have := h2 s (by omega) ho; omega
      · have := h2 s (by omega) ho; omega
    · rename_i hc
      refine ⟨h1, fun s hs ho => ?_, fun s hs hsb ho hne => ?_⟩
      · by_cases e : s = k
        · subst e
          by_cases hp : pop s < pop (bestR c s)
          · exact absurd ⟨hp, hk.1 ho⟩ hc
          · omega
        · exact h2 s (by omega) ho
      · by_cases e : s = k
        · subst e
          exfalso
          have : bestR c s < s ∨ bestR c s = allS c.rs.length := best_lt c s
          omega
        · exact h3 s (by omega) hsb ho hne
where
  best_lt (c : Ch) : ∀ k, bestR c k < k ∨ bestR c k = allS c.rs.length
    | 0 => .inr rfl
    | k + 1 => by
      simp only [bestR]
      split
      · exact .inl (by omega)
      · exact (best_lt c k).imp (fun h => by omega) id
theorem drop_doc {c : Ch} (hv : c.valid = true) : bestR c (allS c.rs.length + 1) = dropV c := by
  have hn := valid_num hv
  obtain ⟨h1, h2, h3⟩ := best_inv hv (allS c.rs.length + 1) (Nat.le_refl _)
  have hle := bestR_le c (allS c.rs.length + 1) (Nat.le_refl _)
  obtain ⟨f1, f2⟩ := pop_full c.rs.length (by omega)
  have hp := Nat.two_pow_pos c.rs.length
  have hle2 : bestR c (allS c.rs.length + 1) < 2 ^ c.rs.length := by simp only [allS] at hle ⊢; omega
  symm
  refine dropV_some (m := pop (bestR c (allS c.rs.length + 1))) (s := bestR c (allS c.rs.length + 1)) ?_ (by omega) (fun i hi x hx => ?_) (fun x hx => ?_) ?_
  · have := (f1 _ hle2).1; omega
  · simp only [isD]
    cases ho : okD c x with
    | false => rw [Bool.and_false]
    | true =>
      have := h2 x hx ho
      rw [decide_eq_false (by omega)]; rfl
  · simp only [isD]
    cases ho : okD c x with
    | false => rw [Bool.and_false]
    | true =>
      have g1 := h2 x (by omega) ho
      by_cases hb : bestR c (allS c.rs.length + 1) = allS c.rs.length
      · have hx2 : x < 2 ^ c.rs.length := by omega
        have := (f1 x hx2).2
        have f2' : pop (allS c.rs.length) = c.rs.length := f2
        rw [hb, f2'] at g1 ⊢
        have g2 := (f1 x hx2).1
        rw [decide_eq_false]; rfl
        intro he
        have := this he
        rw [hb] at hx
        simp only [allS] at hx
        omega
      · have := h3 x (by omega) hx ho hb
        rw [decide_eq_false (by omega)]; rfl
  · simp only [isD]
    rw [h1, Bool.and_true]; exact decide_eq_true trivial
end Go.Proofs.Ytagdholenfkeaaa

/- The document: Least; what the statements leave out. -/
namespace Go.Proofs.Ytagdholenfkeaaa
open Go.Gh
set_option maxRecDepth 100000
set_option maxHeartbeats 4000000
structure kWl1 (c : Prop) : Prop where
  h : c := by (first | exact True.intro | (simp only [inI]; omega) | (simp [P.size, pr, pk, all_int, allOne_p, goods_p, allOne, goods, good, G.one, P.one, P.cells] <;> first | omega | assumption | simp_all))
theorem ent22 : Enters Try.prog 22 := Enters.mk Try.func22 (by kernel_rfl) rfl
theorem r_least_t (c : Ch) (hv : c.valid = true) (hc : leastC c < 1048576) : PSpec Try.prog 22 [.agg [.int .i64 c.pl, .int .i64 c.ps, .list (c.kn.map pk), .list (c.rs.map pr), .int .i64 c.ms]] (.ok (.tuple [.int .i64 (leastC c), .int .i64 0])) := by
  refine pspec_of Try.func22 (rfl : Try.f22.body = some _) rfl ?_
  intro E A C hN hL
  replace hN : C.N = 18 := hN
  simp only [Gh.num, List.map_cons, List.map_nil, Nat.reduceAdd]
  have hn := valid_num hv
  have hdt : ∀ (i : Decidable True), @decide True i = true := fun i => decide_eq_true trivial
  have hdf : ∀ (i : Decidable False), @decide False i = false := fun i => decide_eq_false id
  have hal := allS_lt (n := c.rs.length) (by omega)
  have hl := (least_doc hv).1 hc
  have hlt := hl.2
  repeat refine gwp_seq ?_
  refine gwp_region ?_
  refine n1 110 false (hc := kWl1.h {}) (k := ?_)
  refine v0 (k := ?_)
  refine v0 (k := ?_)
  refine nil0 ?_
  refine cl [1] (k := ?_)
  repeat refine gwp_seq ?_
  refine gwp_region ?_
  refine v0 (k := ?_)
  refine pc0 (spec := r_check_t c hv) (hent := ent48) (k := ?_)
  refine v0 (k := ?_)
  refine nil0 ?_
  refine cl [1, 4] (k := ?_)
  repeat refine gwp_seq ?_
  refine gwp_region ?_
  refine v0 (k := ?_)
  refine v0 (k := ?_)
  refine rb 9 false (h := by (first | rfl | decide)) (k := ?_)
  refine nil0 ?_
  repeat refine gwp_seq ?_
  refine cF (k := ?_)
  repeat refine gwp_seq ?_
  refine gwp_skip ?_
  refine cl [1] (k := ?_)
  repeat refine gwp_seq ?_
  refine rd ?_
  refine d0 0 (k := ?_)
  refine d0 1 (k := ?_)
  refine dpc0 2 (spec := r_every c hv) (hent := ent66) (k := ?_)
  refine dpc0 3 (spec := r_Needs c hv (allS c.rs.length) hal (-1)) (hent := ent65) (k := ?_)
  refine d0 4 (k := ?_)
  refine dz 5 [0, 0, 2, 7, 15] (h := ?_)
  refine de 5 (h := ?_)
  refine cl [5] (k := ?_)
  repeat refine gwp_seq ?_
  refine gwp_region ?_
  refine v0 (k := ?_)
  refine v0 (k := ?_)
  refine rb 16 false (h := by (first | exact decide_eq_false (by omega) | rfl)) (k := ?_)
  refine nil0 ?_
  repeat refine gwp_seq ?_
  refine cF (k := ?_)
  repeat refine gwp_seq ?_
  refine gwp_skip ?_
  refine cl [5] (k := ?_)
  repeat refine gwp_seq ?_
  refine gwp_region ?_
  refine v0 (k := ?_)
  refine v0 (k := ?_)
  refine v0 (k := ?_)
  refine nil0 ?_
  repeat refine gwp_seq ?_
  refine gwp_ret ?_
  repeat (first | refine gthen_ret ?_ | refine gblock_ret ?_ | refine gnoGoto_ret ?_)
  refine fin_ret ?_
  refine fp2 (hR := ?_)
  first
  | rfl
  | (rw [hl.1]; rfl)
theorem r_least_c (c : Ch) (hv : c.valid = true) (hc : ¬ leastC c < 1048576) : PSpec Try.prog 22 [.agg [.int .i64 c.pl, .int .i64 c.ps, .list (c.kn.map pk), .list (c.rs.map pr), .int .i64 c.ms]] (.ok (.tuple [.int .i64 0, .int .i64 10])) := by
  refine pspec_of Try.func22 (rfl : Try.f22.body = some _) rfl ?_
  intro E A C hN hL
  replace hN : C.N = 18 := hN
  simp only [Gh.num, List.map_cons, List.map_nil, Nat.reduceAdd]
  have hn := valid_num hv
  have hdt : ∀ (i : Decidable True), @decide True i = true := fun i => decide_eq_true trivial
  have hdf : ∀ (i : Decidable False), @decide False i = false := fun i => decide_eq_false id
  have hal := allS_lt (n := c.rs.length) (by omega)
  have hl := (least_doc hv).2 hc
  repeat refine gwp_seq ?_
  refine gwp_region ?_
  refine n1 110 false (hc := kWl1.h {}) (k := ?_)
  refine v0 (k := ?_)
  refine v0 (k := ?_)
  refine nil0 ?_
  refine cl [1] (k := ?_)
  repeat refine gwp_seq ?_
  refine gwp_region ?_
  refine v0 (k := ?_)
  refine pc0 (spec := r_check_t c hv) (hent := ent48) (k := ?_)
  refine v0 (k := ?_)
  refine nil0 ?_
  refine cl [1, 4] (k := ?_)
  repeat refine gwp_seq ?_
  refine gwp_region ?_
  refine v0 (k := ?_)
  refine v0 (k := ?_)
  refine rb 9 false (h := by (first | rfl | decide)) (k := ?_)
  refine nil0 ?_
  repeat refine gwp_seq ?_
  refine cF (k := ?_)
  repeat refine gwp_seq ?_
  refine gwp_skip ?_
  refine cl [1] (k := ?_)
  repeat refine gwp_seq ?_
  refine rd ?_
  refine d0 0 (k := ?_)
  refine d0 1 (k := ?_)
  refine dpc0 2 (spec := r_every c hv) (hent := ent66) (k := ?_)
  refine dpc0 3 (spec := r_Needs c hv (allS c.rs.length) hal (-1)) (hent := ent65) (k := ?_)
  refine d0 4 (k := ?_)
  refine dz 5 [0, 0, 2, 7, 15] (h := ?_)
  refine de 5 (h := ?_)
  refine cl [5] (k := ?_)
  repeat refine gwp_seq ?_
  refine gwp_region ?_
  refine v0 (k := ?_)
  refine v0 (k := ?_)
  refine rb 16 true (h := by (first | exact decide_eq_true (by omega) | rfl)) (k := ?_)
  refine nil0 ?_
  repeat refine gwp_seq ?_
  refine cT (k := ?_)
  repeat refine gwp_seq ?_
  refine gwp_region ?_
  refine v0 (k := ?_)
  refine v0 (k := ?_)
  refine nil0 ?_
  repeat refine gwp_seq ?_
  refine gwp_ret ?_
  repeat (first | refine gthen_ret ?_ | refine gblock_ret ?_ | refine gnoGoto_ret ?_)
  refine fin_ret ?_
  refine fp2 (hR := ?_)
  rfl
theorem r_least_f (c : Ch) (h1 : c.kn.length ≤ 1048576) (h2 : c.rs.length ≤ 1048576) (hv : c.valid = false) : PSpec Try.prog 22 [.agg [.int .i64 c.pl, .int .i64 c.ps, .list (c.kn.map pk), .list (c.rs.map pr), .int .i64 c.ms]] (.ok (.tuple [.int .i64 0, .int .i64 1])) := by
  refine pspec_of Try.func22 (rfl : Try.f22.body = some _) rfl ?_
  intro E A C hN hL
  replace hN : C.N = 18 := hN
  simp only [Gh.num, List.map_cons, List.map_nil, Nat.reduceAdd]
  have hdt : ∀ (i : Decidable True), @decide True i = true := fun i => decide_eq_true trivial
  have hdf : ∀ (i : Decidable False), @decide False i = false := fun i => decide_eq_false id
  repeat refine gwp_seq ?_
  refine gwp_region ?_
  refine n1 110 false (hc := kWl1.h {}) (k := ?_)
  refine v0 (k := ?_)
  refine v0 (k := ?_)
  refine nil0 ?_
  refine cl [1] (k := ?_)
  repeat refine gwp_seq ?_
  refine gwp_region ?_
  refine v0 (k := ?_)
  refine pc0 (spec := r_check_f c h1 h2 hv true) (hent := ent48) (k := ?_)
  refine v0 (k := ?_)
  refine nil0 ?_
  refine cl [1, 4] (k := ?_)
  repeat refine gwp_seq ?_
  refine gwp_region ?_
  refine v0 (k := ?_)
  refine v0 (k := ?_)
  refine rb 9 true (h := by (first | rfl | decide)) (k := ?_)
  refine nil0 ?_
  repeat refine gwp_seq ?_
  refine cT (k := ?_)
  repeat refine gwp_seq ?_
  refine gwp_region ?_
  refine v0 (k := ?_)
  refine v0 (k := ?_)
  refine v0 (k := ?_)
  refine nil0 ?_
  repeat refine gwp_seq ?_
  refine gwp_ret ?_
  repeat (first | refine gthen_ret ?_ | refine gblock_ret ?_ | refine gnoGoto_ret ?_)
  refine fin_ret ?_
  refine fp2 (hR := ?_)
  rfl
theorem r_least (c : Ch) (h1 : c.kn.length ≤ 1048576) (h2 : c.rs.length ≤ 1048576) : PSpec Try.prog 22 [.agg [.int .i64 c.pl, .int .i64 c.ps, .list (c.kn.map pk), .list (c.rs.map pr), .int .i64 c.ms]] (.ok (.tuple [.int .i64 (leastA c).1, .int .i64 (leastA c).2])) := by
  by_cases hv : c.valid = true
  · by_cases hc : leastC c < 1048576
    · rw [leastA, if_pos hv, if_pos hc]
      exact r_least_t c hv hc
    · rw [leastA, if_pos hv, if_neg hc]
      exact r_least_c c hv hc
  · rw [leastA, if_neg hv]
    exact r_least_f c h1 h2 (by simpa using hv)
end Go.Proofs.Ytagdholenfkeaaa

/- The document: open, Where, Holds, Hands, Drop. -/
namespace Go.Proofs.Ytagdholenfkeaaa
open Go.Gh
set_option maxRecDepth 100000
set_option maxHeartbeats 4000000
structure kWn1 (c : Prop) : Prop where
  h : c := by (first | exact True.intro | (simp only [inI]; omega) | (simp [P.size, pr, pk, all_int, allOne_p, goods_p, allOne, goods, good, G.one, P.one, P.cells] <;> first | omega | assumption | simp_all))
structure kWn2 (c : Prop) : Prop where
  h : c := by (first | exact True.intro | omega | (simp only [List.length_map, stt_len, G.one, P.one, good, inI, Nat.add_zero, Nat.mul_one]; omega) | (simp [stt_len, G.one, P.one, good, goods, inI, allOne]; done) | (simp [stt_len, G.one, P.one, good, goods, inI, allOne]; omega) | (simp [stt_len, allOne_p, goods_p, G.one, P.one, good, goods, inI, allOne, stt]; done))
theorem r_personT (c : Ch) (hv : c.valid = true) (x : Int) {b : Bool} (h : inQ x c.ps = b) : PSpec Try.prog 89 [.agg [.int .i64 c.pl, .int .i64 c.ps, .list (c.kn.map pk), .list (c.rs.map pr), .int .i64 c.ms], .int .i64 x] (.ok (.bool b)) := by
  have hn := valid_num hv
  have := r_personW c x
  rwa [inW_eq (m := c.ps) (by omega) x, h] at this
theorem ent71 : Enters Try.prog 71 := Enters.mk Try.func71 (by kernel_rfl) rfl
theorem r_open_t (c : Ch) (hv : c.valid = true) (hc : leastC c ≤ c.ms) : PSpec Try.prog 71 [.agg [.int .i64 c.pl, .int .i64 c.ps, .list (c.kn.map pk), .list (c.rs.map pr), .int .i64 c.ms], .bool true] (.ok (.int .i64 0)) := by
  refine pspec_of Try.func71 (rfl : Try.f71.body = some _) rfl ?_
  intro E A C hN hL
  replace hN : C.N = 21 := hN
  simp only [Gh.num, List.map_cons, List.map_nil, Nat.reduceAdd]
  have hn := valid_num hv
  have hdt : ∀ (i : Decidable True), @decide True i = true := fun i => decide_eq_true trivial
  have hdf : ∀ (i : Decidable False), @decide False i = false := fun i => decide_eq_false id
  have hal := allS_lt (n := c.rs.length) (by omega)
  have hs := (small_doc hv (allS c.rs.length) (X := c.ms) (by omega)).2 (by rw [← least_eq]; exact hc)
  have hs2 : ¬ c.ms < nedR c (allS c.rs.length) (-1) c.pl.toNat := by omega
  repeat refine gwp_seq ?_
  refine gwp_region ?_
  refine n1 120 false (hc := kWn1.h {}) (k := ?_)
  refine v0 (k := ?_)
  refine nil0 ?_
  refine cl [1, 2] (k := ?_)
  repeat refine gwp_seq ?_
  refine gwp_region ?_
  refine v0 (k := ?_)
  refine v0 (k := ?_)
  refine pc0 (spec := r_check_t c hv) (hent := ent48) (k := ?_)
  refine v0 (k := ?_)
  refine nil0 ?_
  refine cl [2, 5] (k := ?_)
  repeat refine gwp_seq ?_
  refine rd ?_
  refine d0 0 (k := ?_)
  refine d0 1 (k := ?_)
  refine d0 2 (k := ?_)
  refine dw0 3 (k := ?_)
  refine dw0 4 (k := ?_)
  refine dpcw 5 (spec := r_every c hv) (hent := ent66) (k := ?_)
  refine dpcw 6 (spec := r_Needs c hv (allS c.rs.length) hal (-1)) (hent := ent65) (k := ?_)
  refine dw0 7 (k := ?_)
  refine dw0 8 (k := ?_)
  refine dw0 9 (k := ?_)
  refine d0 10 (k := ?_)
  refine dz 11 [0, 1, 3, 7, 7, 23, 63, 7, 135, 511, 1023] (h := ?_)
  refine de 11 (h := ?_)
  repeat refine gwp_seq ?_
  refine cF (k := ?_)
  repeat refine gwp_seq ?_
  refine gwp_skip ?_
  refine cl [5] (k := ?_)
  repeat refine gwp_seq ?_
  refine gwp_region ?_
  refine v0 (k := ?_)
  refine v0 (k := ?_)
  refine nil0 ?_
  repeat refine gwp_seq ?_
  refine gwp_ret ?_
  repeat (first | refine gthen_ret ?_ | refine gblock_ret ?_ | refine gnoGoto_ret ?_)
  refine fin_ret ?_
  refine fp (hR := ?_)
  rfl
theorem r_open_c (c : Ch) (hv : c.valid = true) (hc : ¬ leastC c ≤ c.ms) : PSpec Try.prog 71 [.agg [.int .i64 c.pl, .int .i64 c.ps, .list (c.kn.map pk), .list (c.rs.map pr), .int .i64 c.ms], .bool true] (.ok (.int .i64 10)) := by
  refine pspec_of Try.func71 (rfl : Try.f71.body = some _) rfl ?_
  intro E A C hN hL
  replace hN : C.N = 21 := hN
  simp only [Gh.num, List.map_cons, List.map_nil, Nat.reduceAdd]
  have hn := valid_num hv
  have hdt : ∀ (i : Decidable True), @decide True i = true := fun i => decide_eq_true trivial
  have hdf : ∀ (i : Decidable False), @decide False i = false := fun i => decide_eq_false id
  have hal := allS_lt (n := c.rs.length) (by omega)
  have hs := mt (small_doc hv (allS c.rs.length) (X := c.ms) (by omega)).1 (by rw [← least_eq]; exact hc)
  have hs2 : c.ms < nedR c (allS c.rs.length) (-1) c.pl.toNat := by omega
  repeat refine gwp_seq ?_
  refine gwp_region ?_
  refine n1 120 false (hc := kWn1.h {}) (k := ?_)
  refine v0 (k := ?_)
  refine nil0 ?_
  refine cl [1, 2] (k := ?_)
  repeat refine gwp_seq ?_
  refine gwp_region ?_
  refine v0 (k := ?_)
  refine v0 (k := ?_)
  refine pc0 (spec := r_check_t c hv) (hent := ent48) (k := ?_)
  refine v0 (k := ?_)
  refine nil0 ?_
  refine cl [2, 5] (k := ?_)
  repeat refine gwp_seq ?_
  refine rd ?_
  refine d0 0 (k := ?_)
  refine d0 1 (k := ?_)
  refine d0 2 (k := ?_)
  refine dw0 3 (k := ?_)
  refine dw0 4 (k := ?_)
  refine dpcw 5 (spec := r_every c hv) (hent := ent66) (k := ?_)
  refine dpcw 6 (spec := r_Needs c hv (allS c.rs.length) hal (-1)) (hent := ent65) (k := ?_)
  refine dw0 7 (k := ?_)
  refine dw0 8 (k := ?_)
  refine dw0 9 (k := ?_)
  refine d0 10 (k := ?_)
  refine dz 11 [0, 1, 3, 7, 7, 23, 63, 7, 135, 511, 1023] (h := ?_)
  refine de 11 (h := ?_)
  repeat refine gwp_seq ?_
  refine cT (k := ?_)
  repeat refine gwp_seq ?_
  refine gwp_region ?_
  refine v0 (k := ?_)
  refine nil0 ?_
  repeat refine gwp_seq ?_
  refine gwp_ret ?_
  repeat (first | refine gthen_ret ?_ | refine gblock_ret ?_ | refine gnoGoto_ret ?_)
  refine fin_ret ?_
  refine fp (hR := ?_)
  rfl
theorem r_open_r (c : Ch) (hv : c.valid = true) : PSpec Try.prog 71 [.agg [.int .i64 c.pl, .int .i64 c.ps, .list (c.kn.map pk), .list (c.rs.map pr), .int .i64 c.ms], .bool false] (.ok (.int .i64 2)) := by
  refine pspec_of Try.func71 (rfl : Try.f71.body = some _) rfl ?_
  intro E A C hN hL
  replace hN : C.N = 21 := hN
  simp only [Gh.num, List.map_cons, List.map_nil, Nat.reduceAdd]
  have hn := valid_num hv
  have hdt : ∀ (i : Decidable True), @decide True i = true := fun i => decide_eq_true trivial
  have hdf : ∀ (i : Decidable False), @decide False i = false := fun i => decide_eq_false id
  repeat refine gwp_seq ?_
  refine gwp_region ?_
  refine n1 120 false (hc := kWn1.h {}) (k := ?_)
  refine v0 (k := ?_)
  refine nil0 ?_
  refine cl [1, 2] (k := ?_)
  repeat refine gwp_seq ?_
  refine gwp_region ?_
  refine v0 (k := ?_)
  refine v0 (k := ?_)
  refine pc0 (spec := r_check_r c hv) (hent := ent48) (k := ?_)
  refine v0 (k := ?_)
  refine nil0 ?_
  refine cl [2, 5] (k := ?_)
  repeat refine gwp_seq ?_
  refine rd ?_
  refine d0 0 (k := ?_)
  refine d0 1 (k := ?_)
  refine d0 2 (k := ?_)
  refine dx0 3 (k := ?_)
  refine dx0 4 (k := ?_)
  refine dx0 5 (k := ?_)
  refine dx0 6 (k := ?_)
  refine dx0 7 (k := ?_)
  refine dx0 8 (k := ?_)
  refine dx0 9 (k := ?_)
  refine d0 10 (k := ?_)
  refine dz 11 [0, 1, 3, 7, 7, 23, 63, 7, 135, 511, 1023] (h := ?_)
  refine de 11 (h := ?_)
  repeat refine gwp_seq ?_
  refine cF (k := ?_)
  repeat refine gwp_seq ?_
  refine gwp_skip ?_
  refine cl [5] (k := ?_)
  repeat refine gwp_seq ?_
  refine gwp_region ?_
  refine v0 (k := ?_)
  refine v0 (k := ?_)
  refine nil0 ?_
  repeat refine gwp_seq ?_
  refine gwp_ret ?_
  repeat (first | refine gthen_ret ?_ | refine gblock_ret ?_ | refine gnoGoto_ret ?_)
  refine fin_ret ?_
  refine fp (hR := ?_)
  rfl
theorem r_open_f (c : Ch) (h1 : c.kn.length ≤ 1048576) (h2 : c.rs.length ≤ 1048576) (hv : c.valid = false) (b : Bool) : PSpec Try.prog 71 [.agg [.int .i64 c.pl, .int .i64 c.ps, .list (c.kn.map pk), .list (c.rs.map pr), .int .i64 c.ms], .bool b] (.ok (.int .i64 1)) := by
  refine pspec_of Try.func71 (rfl : Try.f71.body = some _) rfl ?_
  intro E A C hN hL
  replace hN : C.N = 21 := hN
  simp only [Gh.num, List.map_cons, List.map_nil, Nat.reduceAdd]
  have hdt : ∀ (i : Decidable True), @decide True i = true := fun i => decide_eq_true trivial
  have hdf : ∀ (i : Decidable False), @decide False i = false := fun i => decide_eq_false id
  repeat refine gwp_seq ?_
  refine gwp_region ?_
  refine n1 120 false (hc := kWn1.h {}) (k := ?_)
  refine v0 (k := ?_)
  refine nil0 ?_
  refine cl [1, 2] (k := ?_)
  repeat refine gwp_seq ?_
  refine gwp_region ?_
  refine v0 (k := ?_)
  refine v0 (k := ?_)
  refine pc0 (spec := r_check_f c h1 h2 hv b) (hent := ent48) (k := ?_)
  refine v0 (k := ?_)
  refine nil0 ?_
  refine cl [2, 5] (k := ?_)
  repeat refine gwp_seq ?_
  refine rd ?_
  refine d0 0 (k := ?_)
  refine d0 1 (k := ?_)
  refine d0 2 (k := ?_)
  refine dx0 3 (k := ?_)
  refine dx0 4 (k := ?_)
  refine dx0 5 (k := ?_)
  refine dx0 6 (k := ?_)
  refine dx0 7 (k := ?_)
  refine dx0 8 (k := ?_)
  refine dx0 9 (k := ?_)
  refine d0 10 (k := ?_)
  refine dz 11 [0, 1, 3, 7, 7, 23, 63, 7, 135, 511, 1023] (h := ?_)
  refine de 11 (h := ?_)
  repeat refine gwp_seq ?_
  refine cF (k := ?_)
  repeat refine gwp_seq ?_
  refine gwp_skip ?_
  refine cl [5] (k := ?_)
  repeat refine gwp_seq ?_
  refine gwp_region ?_
  refine v0 (k := ?_)
  refine v0 (k := ?_)
  refine nil0 ?_
  repeat refine gwp_seq ?_
  refine gwp_ret ?_
  repeat (first | refine gthen_ret ?_ | refine gblock_ret ?_ | refine gnoGoto_ret ?_)
  refine fin_ret ?_
  refine fp (hR := ?_)
  rfl
theorem ent72 : Enters Try.prog 72 := Enters.mk Try.func72 (by kernel_rfl) rfl
theorem r_whereP (c : Ch) (hv : c.valid = true) (p : Int) : PSpec Try.prog 72 [.agg [.int .i64 c.pl, .int .i64 c.ps, .list (c.kn.map pk), .list (c.rs.map pr), .int .i64 c.ms], .int .i64 p] (.ok (.int .i64 (setP (fun k => decide (min ((aftG (kE c.kn) 0 c.ps.toNat (selC c p (allS c.rs.length))) k 0) ((aftG (kE c.kn) 0 c.ps.toNat (selC c p (allS c.rs.length))) k 1) + (nedR c (allS c.rs.length) p c.pl.toNat) ≤ c.ms)) c.ps.toNat : Nat))) := by
  refine pspec_of Try.func72 (rfl : Try.f72.body = some _) rfl ?_
  intro E A C hN hL
  replace hN : C.N = 42 := hN
  simp only [Gh.num, List.map_cons, List.map_nil, Nat.reduceAdd]
  have hn := valid_num hv
  have hal := allS_lt (n := c.rs.length) (by omega)
  have htk := takeS
  have hdr := dropS
  have hone := oneS
  have hlen := stt_len
  have hbd := aftG_bd (e := kE c.kn) (who := 0) (P := c.ps.toNat) (selC c p (allS c.rs.length))
  have hnr := nedR_in c (allS c.rs.length) p c.pl.toNat
  repeat refine gwp_seq ?_
  refine gwp_region ?_
  refine n1 120 false (hc := kWn2.h {}) (k := ?_)
  refine v0 (k := ?_)
  refine nil0 ?_
  refine cl [1, 2] (k := ?_)
  repeat refine gwp_seq ?_
  refine rd ?_
  refine d0 0 (k := ?_)
  refine d0 1 (k := ?_)
  refine d0 2 (k := ?_)
  refine dpc0 3 (spec := r_every c hv) (hent := ent66) (k := ?_)
  refine dpc0 4 (spec := r_after c hv p (allS c.rs.length) hal 0 (by omega)) (hent := ent84) (k := ?_)
  refine dn1 5 150 false (hc := kWn2.h {}) (k := ?_)
  refine ds1 6 (hc := kWn2.h {}) (k := ?_)
  refine dz 7 [0, 0, 0, 4, 15, 0, 63] (h := ?_)
  refine de 7 (h := ?_)
  refine cl [1, 2, 5] (k := ?_)
  repeat refine gwp_seq ?_
  refine gwp_region ?_
  refine v0 (k := ?_)
  refine nil0 ?_
  refine cl [1, 2, 5, 6] (k := ?_)
  repeat refine gwp_seq ?_
  refine gwp_region ?_
  refine v0 (k := ?_)
  refine nil0 ?_
  refine cl [1, 2, 5, 6, 7] (k := ?_)
  repeat refine gwp_seq ?_
  refine gwp_block ?_
  repeat refine gwp_seq ?_
  refine gc_loop (fun mz σ => ∃ k : Nat, ((k : Int) ≤ c.ps) ∧ mz = c.ps.toNat - k ∧ σ = (sg [(1, .p (.int .i64 p)), (2, .ref 120 0), (5, .ref 150 0), (6, .p (.int .i64 (setP (fun k => decide (min ((aftG (kE c.kn) 0 c.ps.toNat (selC c p (allS c.rs.length))) k 0) ((aftG (kE c.kn) 0 c.ps.toNat (selC c p (allS c.rs.length))) k 1) + (nedR c (allS c.rs.length) p c.pl.toNat) ≤ c.ms)) k : Nat))), (7, .p (.int .i64 (k : Nat)))] [(120, .cells [.p (.int .i64 c.pl), .p (.int .i64 c.ps), .p (.list (c.kn.map pk)), .p (.list (c.rs.map pr)), .p (.int .i64 c.ms)] 0), (150, .cells ((stt (aftG (kE c.kn) 0 c.ps.toNat (selC c p (allS c.rs.length)))).map G.p) 0)] A [] : Sg E)) ?_ (fun mz σ hI => ?_)
  · refine lbeg [1, 2, 5, 6, 7] (hV := ?_)
    exact ⟨_, 0, by omega, rfl, rfl⟩
  obtain ⟨k, hk, hnn, rfl⟩ := hI
  have hsp := setP_8 (fun k => decide (min ((aftG (kE c.kn) 0 c.ps.toNat (selC c p (allS c.rs.length))) k 0) ((aftG (kE c.kn) 0 c.ps.toNat (selC c p (allS c.rs.length))) k 1) + (nedR c (allS c.rs.length) p c.pl.toNat) ≤ c.ms)) (k := k) (by omega)
  have hpw : 2 ^ k ≤ 2 ^ 8 := Nat.pow_le_pow_right (by omega) (by omega)
  have hp0 := Nat.two_pow_pos k
  repeat refine gwp_seq ?_
  refine gwp_region ?_
  refine v0 (k := ?_)
  refine v0 (k := ?_)
  refine v0 (k := ?_)
  refine v0 (k := ?_)
  refine nil0 ?_
  repeat refine gwp_seq ?_
  refine cB (k1 := fun hb1 => ?_) (k0 := fun hb1 => ?_)
  · replace hb1 := hB.h {} hb1
    try rw [eqI] at hb1
    repeat refine gwp_seq ?_
    refine gwp_skip ?_
    refine cl [1, 2, 5, 6, 7] (k := ?_)
    repeat refine gwp_seq ?_
    refine gwp_block ?_
    repeat refine gwp_seq ?_
    have g1 := stt_get (aftG (kE c.kn) 0 c.ps.toNat (selC c p (allS c.rs.length))) (x := k) (by omega) (y := 0) (by omega)
    rw [Nat.add_zero] at g1
    have g2 := stt_get (aftG (kE c.kn) 0 c.ps.toNat (selC c p (allS c.rs.length))) (x := k) (by omega) (y := 1) (by omega)
    have b1 := hbd k 0
    have b2 := hbd k 1
    refine rd ?_
    refine d0 0 (k := ?_)
    refine d1 1 (hc := kWn2.h {}) (k := ?_)
    refine d1 2 (hc := kWn2.h {}) (k := ?_)
    refine d0 3 (k := ?_)
    refine d0 4 (k := ?_)
    refine d1 5 (hc := kWn2.h {}) (k := ?_)
    refine d1 6 (hc := kWn2.h {}) (k := ?_)
    refine d0 7 (k := ?_)
    refine d0 8 (k := ?_)
    refine d0 9 (k := ?_)
    refine d0 10 (k := ?_)
    refine dpc0 11 (spec := r_every c hv) (hent := ent66) (k := ?_)
    refine d0 12 (k := ?_)
    refine dpc0 13 (spec := r_Needs c hv (allS c.rs.length) hal p) (hent := ent65) (k := ?_)
    refine d1 14 (hc := kWn2.h {}) (k := ?_)
    refine d0 15 (k := ?_)
    refine d0 16 (k := ?_)
    refine d0 17 (k := ?_)
    refine dz 18 [0, 1, 3, 7, 0, 16, 48, 112, 255, 0, 0, 1024, 0, 7680, 16383, 0, 32768, 131071] (h := ?_)
    refine de 18 (h := ?_)
    repeat refine gwp_seq ?_
    refine cB (k1 := fun hb2 => ?_) (k0 := fun hb2 => ?_)
    · replace hb2 := hB.h {} hb2
      try rw [eqI] at hb2
      repeat refine gwp_seq ?_
      refine gwp_region ?_
      refine v0 (k := ?_)
      refine v0 (k := ?_)
      refine pc0 (spec := r_power k (by omega)) (hent := ent85) (k := ?_)
      refine v1 (hc := kWn2.h {}) (k := ?_)
      refine v0 (k := ?_)
      refine nil0 ?_
      refine cl [1, 2, 5, 6, 7] (k := ?_)
      repeat refine gwp_seq ?_
      refine gwp_region ?_
      refine v0 (k := ?_)
      refine v1 (hc := kWn2.h {}) (k := ?_)
      refine v0 (k := ?_)
      refine nil0 ?_
      refine lend [1, 2, 5, 6, 7] (h := ?_) (hV := ?_) (n' := c.ps.toNat - (k + 1))
      · omega
      first
      | exact ⟨k + 1, by omega, rfl, sgE (by rw [setP, if_pos (decide_eq_true (by omega)), Int.natCast_add]; rfl) rfl⟩
      | exact ⟨k + 1, by omega, rfl, sgE (by rw [setP, if_neg (fun h => by have := of_decide_eq_true h; omega)]; rfl) rfl⟩
    · replace hb2 := hB.h {} hb2
      try rw [eqI] at hb2
      repeat refine gwp_seq ?_
      refine gwp_skip ?_
      refine cl [1, 2, 5, 6, 7] (k := ?_)
      repeat refine gwp_seq ?_
      refine gwp_region ?_
      refine v0 (k := ?_)
      refine v1 (hc := kWn2.h {}) (k := ?_)
      refine v0 (k := ?_)
      refine nil0 ?_
      refine lend [1, 2, 5, 6, 7] (h := ?_) (hV := ?_) (n' := c.ps.toNat - (k + 1))
      · omega
      first
      | exact ⟨k + 1, by omega, rfl, sgE (by rw [setP, if_pos (decide_eq_true (by omega)), Int.natCast_add]; rfl) rfl⟩
      | exact ⟨k + 1, by omega, rfl, sgE (by rw [setP, if_neg (fun h => by have := of_decide_eq_true h; omega)]; rfl) rfl⟩
  · replace hb1 := hB.h {} hb1
    try rw [eqI] at hb1
    repeat refine gwp_seq ?_
    refine gwp_exit ?_
    repeat (first | refine gthen_exit ?_ | refine gnoGoto_exit ?_ | refine gblock_here ?_ | refine gblock_out rfl ?_)
    refine cl [6] (k := ?_)
    repeat refine gwp_seq ?_
    refine gwp_region ?_
    refine v0 (k := ?_)
    refine v0 (k := ?_)
    refine nil0 ?_
    repeat refine gwp_seq ?_
    refine gwp_ret ?_
    repeat (first | refine gthen_ret ?_ | refine gblock_ret ?_ | refine gnoGoto_ret ?_)
    refine fin_ret ?_
    refine fp (hR := ?_)
    obtain rfl : k = c.ps.toNat := by omega
    rfl
theorem r_where (c : Ch) (hv : c.valid = true) (hc : leastC c ≤ c.ms) (p : Nat) (hp : (p : Int) < c.pl) : PSpec Try.prog 72 [.agg [.int .i64 c.pl, .int .i64 c.ps, .list (c.kn.map pk), .list (c.rs.map pr), .int .i64 c.ms], .int .i64 (p : Nat)] (.ok (.int .i64 (whereC c (p : Nat) : Nat))) := by
  rw [← where_doc hv hc hp]
  exact r_whereP c hv (p : Nat)
theorem ent25 : Enters Try.prog 25 := Enters.mk Try.func25 (by kernel_rfl) rfl
theorem r_Where_t (c : Ch) (hv : c.valid = true) (x : Nat) (hq : inQ (x : Nat) c.pl = true) (hc : leastC c ≤ c.ms) : PSpec Try.prog 25 [.agg [.int .i64 c.pl, .int .i64 c.ps, .list (c.kn.map pk), .list (c.rs.map pr), .int .i64 c.ms], .int .i64 (x : Nat)] (.ok (.tuple [.int .i64 (whereC c (x : Nat) : Nat), .int .i64 0])) := by
  refine pspec_of Try.func25 (rfl : Try.f25.body = some _) rfl ?_
  intro E A C hN hL
  replace hN : C.N = 18 := hN
  simp only [Gh.num, List.map_cons, List.map_nil, Nat.reduceAdd]
  have hn := valid_num hv
  have hdt : ∀ (i : Decidable True), @decide True i = true := fun i => decide_eq_true trivial
  have hdf : ∀ (i : Decidable False), @decide False i = false := fun i => decide_eq_false id
  have hx := hq
  simp only [inQ, Bool.and_eq_true, decide_eq_true_eq] at hx
  have hx2 : ((x : Nat) : Int) < c.pl := by omega
  repeat refine gwp_seq ?_
  refine gwp_region ?_
  refine n1 120 false (hc := kWn1.h {}) (k := ?_)
  refine v0 (k := ?_)
  refine v0 (k := ?_)
  refine nil0 ?_
  refine cl [1, 2] (k := ?_)
  repeat refine gwp_seq ?_
  refine rd ?_
  refine d0 0 (k := ?_)
  refine d0 1 (k := ?_)
  refine d0 2 (k := ?_)
  refine dpc0 3 (spec := r_plateT c hv (x : Nat) hq) (hent := ent49) (k := ?_)
  refine dpc0 4 (spec := r_open_t c hv hc) (hent := ent71) (k := ?_)
  refine d0 5 (k := ?_)
  refine dz 6 [0, 0, 0, 6, 15, 31] (h := ?_)
  refine de 6 (h := ?_)
  refine cl [1, 2, 6] (k := ?_)
  repeat refine gwp_seq ?_
  refine gwp_region ?_
  refine v0 (k := ?_)
  refine v0 (k := ?_)
  refine rb 13 false (h := by (first | rfl | decide)) (k := ?_)
  refine nil0 ?_
  repeat refine gwp_seq ?_
  refine cF (k := ?_)
  repeat refine gwp_seq ?_
  refine gwp_skip ?_
  refine cl [1, 2] (k := ?_)
  repeat refine gwp_seq ?_
  refine gwp_region ?_
  refine v0 (k := ?_)
  refine v0 (k := ?_)
  refine pc0 (spec := r_where c hv hc x hx2) (hent := ent72) (k := ?_)
  refine v0 (k := ?_)
  refine v0 (k := ?_)
  refine nil0 ?_
  repeat refine gwp_seq ?_
  refine gwp_ret ?_
  repeat (first | refine gthen_ret ?_ | refine gblock_ret ?_ | refine gnoGoto_ret ?_)
  refine fin_ret ?_
  refine fp2 (hR := ?_)
  rfl
theorem r_Where_r (c : Ch) (hv : c.valid = true) (x : Int) (hq : inQ x c.pl = false) : PSpec Try.prog 25 [.agg [.int .i64 c.pl, .int .i64 c.ps, .list (c.kn.map pk), .list (c.rs.map pr), .int .i64 c.ms], .int .i64 x] (.ok (.tuple [.int .i64 0, .int .i64 2])) := by
  refine pspec_of Try.func25 (rfl : Try.f25.body = some _) rfl ?_
  intro E A C hN hL
  replace hN : C.N = 18 := hN
  simp only [Gh.num, List.map_cons, List.map_nil, Nat.reduceAdd]
  have hn := valid_num hv
  have hdt : ∀ (i : Decidable True), @decide True i = true := fun i => decide_eq_true trivial
  have hdf : ∀ (i : Decidable False), @decide False i = false := fun i => decide_eq_false id
  repeat refine gwp_seq ?_
  refine gwp_region ?_
  refine n1 120 false (hc := kWn1.h {}) (k := ?_)
  refine v0 (k := ?_)
  refine v0 (k := ?_)
  refine nil0 ?_
  refine cl [1, 2] (k := ?_)
  repeat refine gwp_seq ?_
  refine rd ?_
  refine d0 0 (k := ?_)
  refine d0 1 (k := ?_)
  refine d0 2 (k := ?_)
  refine dpc0 3 (spec := r_plateT c hv x hq) (hent := ent49) (k := ?_)
  refine dpc0 4 (spec := r_open_r c hv) (hent := ent71) (k := ?_)
  refine d0 5 (k := ?_)
  refine dz 6 [0, 0, 0, 6, 15, 31] (h := ?_)
  refine de 6 (h := ?_)
  refine cl [1, 2, 6] (k := ?_)
  repeat refine gwp_seq ?_
  refine gwp_region ?_
  refine v0 (k := ?_)
  refine v0 (k := ?_)
  refine rb 13 true (h := by (first | rfl | decide)) (k := ?_)
  refine nil0 ?_
  repeat refine gwp_seq ?_
  refine cT (k := ?_)
  repeat refine gwp_seq ?_
  refine gwp_region ?_
  refine v0 (k := ?_)
  refine v0 (k := ?_)
  refine v0 (k := ?_)
  refine nil0 ?_
  repeat refine gwp_seq ?_
  refine gwp_ret ?_
  repeat (first | refine gthen_ret ?_ | refine gblock_ret ?_ | refine gnoGoto_ret ?_)
  refine fin_ret ?_
  refine fp2 (hR := ?_)
  rfl
theorem r_Where_c (c : Ch) (hv : c.valid = true) (x : Int) (hq : inQ x c.pl = true) (hc : ¬ leastC c ≤ c.ms) : PSpec Try.prog 25 [.agg [.int .i64 c.pl, .int .i64 c.ps, .list (c.kn.map pk), .list (c.rs.map pr), .int .i64 c.ms], .int .i64 x] (.ok (.tuple [.int .i64 0, .int .i64 10])) := by
  refine pspec_of Try.func25 (rfl : Try.f25.body = some _) rfl ?_
  intro E A C hN hL
  replace hN : C.N = 18 := hN
  simp only [Gh.num, List.map_cons, List.map_nil, Nat.reduceAdd]
  have hn := valid_num hv
  have hdt : ∀ (i : Decidable True), @decide True i = true := fun i => decide_eq_true trivial
  have hdf : ∀ (i : Decidable False), @decide False i = false := fun i => decide_eq_false id
  repeat refine gwp_seq ?_
  refine gwp_region ?_
  refine n1 120 false (hc := kWn1.h {}) (k := ?_)
  refine v0 (k := ?_)
  refine v0 (k := ?_)
  refine nil0 ?_
  refine cl [1, 2] (k := ?_)
  repeat refine gwp_seq ?_
  refine rd ?_
  refine d0 0 (k := ?_)
  refine d0 1 (k := ?_)
  refine d0 2 (k := ?_)
  refine dpc0 3 (spec := r_plateT c hv x hq) (hent := ent49) (k := ?_)
  refine dpc0 4 (spec := r_open_c c hv hc) (hent := ent71) (k := ?_)
  refine d0 5 (k := ?_)
  refine dz 6 [0, 0, 0, 6, 15, 31] (h := ?_)
  refine de 6 (h := ?_)
  refine cl [1, 2, 6] (k := ?_)
  repeat refine gwp_seq ?_
  refine gwp_region ?_
  refine v0 (k := ?_)
  refine v0 (k := ?_)
  refine rb 13 true (h := by (first | rfl | decide)) (k := ?_)
  refine nil0 ?_
  repeat refine gwp_seq ?_
  refine cT (k := ?_)
  repeat refine gwp_seq ?_
  refine gwp_region ?_
  refine v0 (k := ?_)
  refine v0 (k := ?_)
  refine v0 (k := ?_)
  refine nil0 ?_
  repeat refine gwp_seq ?_
  refine gwp_ret ?_
  repeat (first | refine gthen_ret ?_ | refine gblock_ret ?_ | refine gnoGoto_ret ?_)
  refine fin_ret ?_
  refine fp2 (hR := ?_)
  rfl
theorem r_Where_f (c : Ch) (h1 : c.kn.length ≤ 1048576) (h2 : c.rs.length ≤ 1048576) (hv : c.valid = false) (x : Int) : PSpec Try.prog 25 [.agg [.int .i64 c.pl, .int .i64 c.ps, .list (c.kn.map pk), .list (c.rs.map pr), .int .i64 c.ms], .int .i64 x] (.ok (.tuple [.int .i64 0, .int .i64 1])) := by
  refine pspec_of Try.func25 (rfl : Try.f25.body = some _) rfl ?_
  intro E A C hN hL
  replace hN : C.N = 18 := hN
  simp only [Gh.num, List.map_cons, List.map_nil, Nat.reduceAdd]
  have hdt : ∀ (i : Decidable True), @decide True i = true := fun i => decide_eq_true trivial
  have hdf : ∀ (i : Decidable False), @decide False i = false := fun i => decide_eq_false id
  repeat refine gwp_seq ?_
  refine gwp_region ?_
  refine n1 120 false (hc := kWn1.h {}) (k := ?_)
  refine v0 (k := ?_)
  refine v0 (k := ?_)
  refine nil0 ?_
  refine cl [1, 2] (k := ?_)
  repeat refine gwp_seq ?_
  refine rd ?_
  refine d0 0 (k := ?_)
  refine d0 1 (k := ?_)
  refine d0 2 (k := ?_)
  refine dpc0 3 (spec := r_plateW c x) (hent := ent49) (k := ?_)
  refine dpc0 4 (spec := r_open_f c h1 h2 hv _) (hent := ent71) (k := ?_)
  refine d0 5 (k := ?_)
  refine dz 6 [0, 0, 0, 6, 15, 31] (h := ?_)
  refine de 6 (h := ?_)
  refine cl [1, 2, 6] (k := ?_)
  repeat refine gwp_seq ?_
  refine gwp_region ?_
  refine v0 (k := ?_)
  refine v0 (k := ?_)
  refine rb 13 true (h := by (first | rfl | decide)) (k := ?_)
  refine nil0 ?_
  repeat refine gwp_seq ?_
  refine cT (k := ?_)
  repeat refine gwp_seq ?_
  refine gwp_region ?_
  refine v0 (k := ?_)
  refine v0 (k := ?_)
  refine v0 (k := ?_)
  refine nil0 ?_
  repeat refine gwp_seq ?_
  refine gwp_ret ?_
  repeat (first | refine gthen_ret ?_ | refine gblock_ret ?_ | refine gnoGoto_ret ?_)
  refine fin_ret ?_
  refine fp2 (hR := ?_)
  rfl
theorem setP_t {q : Nat → Bool} {k : Nat} (h : q k = true) : ((setP q (k + 1) : Nat) : Int) = (setP q k : Nat) + ((2 ^ k : Nat) : Int) := by rw [setP, if_pos h, Int.natCast_add]
theorem setP_f {q : Nat → Bool} {k : Nat} (h : q k = false) : ((setP q (k + 1) : Nat) : Int) = (setP q k : Nat) := by rw [setP, if_neg (by simp [h])]
theorem ent29 : Enters Try.prog 29 := Enters.mk Try.func29 (by kernel_rfl) rfl
theorem r_Holds_t (c : Ch) (hv : c.valid = true) (x : Nat) (hx8 : x < 8) (hq : inQ (x : Nat) c.ps = true) (hc : leastC c ≤ c.ms) : PSpec Try.prog 29 [.agg [.int .i64 c.pl, .int .i64 c.ps, .list (c.kn.map pk), .list (c.rs.map pr), .int .i64 c.ms], .int .i64 (x : Nat)] (.ok (.tuple [.int .i64 (sureH c x c.pl.toNat : Nat), .int .i64 (canH c x c.pl.toNat : Nat), .int .i64 0])) := by
  refine pspec_of Try.func29 (rfl : Try.f29.body = some _) rfl ?_
  intro E A C hN hL
  replace hN : C.N = 46 := hN
  simp only [Gh.num, List.map_cons, List.map_nil, Nat.reduceAdd]
  have hn := valid_num hv
  have hdt : ∀ (i : Decidable True), @decide True i = true := fun i => decide_eq_true trivial
  have hdf : ∀ (i : Decidable False), @decide False i = false := fun i => decide_eq_false id
  repeat refine gwp_seq ?_
  refine gwp_region ?_
  refine n1 120 false (hc := kWn1.h {}) (k := ?_)
  refine v0 (k := ?_)
  refine v0 (k := ?_)
  refine v0 (k := ?_)
  refine nil0 ?_
  refine cl [1, 2] (k := ?_)
  repeat refine gwp_seq ?_
  refine rd ?_
  refine d0 0 (k := ?_)
  refine d0 1 (k := ?_)
  refine d0 2 (k := ?_)
  refine dpc0 3 (spec := r_personT c hv (x : Nat) hq) (hent := ent89) (k := ?_)
  refine dpc0 4 (spec := r_open_t c hv hc) (hent := ent71) (k := ?_)
  refine d0 5 (k := ?_)
  refine dz 6 [0, 0, 0, 6, 15, 31] (h := ?_)
  refine de 6 (h := ?_)
  refine cl [1, 2, 7] (k := ?_)
  repeat refine gwp_seq ?_
  refine gwp_region ?_
  refine v0 (k := ?_)
  refine v0 (k := ?_)
  refine rb 18 false (h := by (first | rfl | decide)) (k := ?_)
  refine nil0 ?_
  repeat refine gwp_seq ?_
  refine cF (k := ?_)
  repeat refine gwp_seq ?_
  refine gwp_skip ?_
  refine cl [1, 2] (k := ?_)
  repeat refine gwp_seq ?_
  refine gwp_region ?_
  refine v0 (k := ?_)
  refine v0 (k := ?_)
  refine nil0 ?_
  refine cl [1, 2, 8, 9] (k := ?_)
  repeat refine gwp_seq ?_
  refine gwp_region ?_
  refine v0 (k := ?_)
  refine nil0 ?_
  refine cl [1, 2, 8, 9, 10] (k := ?_)
  repeat refine gwp_seq ?_
  refine gwp_block ?_
  repeat refine gwp_seq ?_
  refine gc_loop (fun mz σ => ∃ k : Nat, ((k : Int) ≤ c.pl) ∧ mz = c.pl.toNat - k ∧ σ = (sg [(1, .p (.int .i64 (x : Nat))), (2, .ref 120 0), (8, .p (.int .i64 (setP (fun k => decide (whereC c (k : Nat) = 2 ^ x)) k : Nat))), (9, .p (.int .i64 (setP (fun k => (whereC c (k : Nat)).testBit x) k : Nat))), (10, .p (.int .i64 (k : Nat)))] [(120, .cells [.p (.int .i64 c.pl), .p (.int .i64 c.ps), .p (.list (c.kn.map pk)), .p (.list (c.rs.map pr)), .p (.int .i64 c.ms)] 0)] A [] : Sg E)) ?_ (fun mz σ hI => ?_)
  · refine lbeg [1, 2, 8, 9, 10] (hV := ?_)
    exact ⟨_, 0, by omega, rfl, rfl⟩
  obtain ⟨k, hk, hnn, rfl⟩ := hI
  have hs1 := setP_8 (fun k => decide (whereC c (k : Nat) = 2 ^ x)) (k := k) (by omega)
  have hs2 := setP_8 (fun k => (whereC c (k : Nat)).testBit x) (k := k) (by omega)
  have hpw : 2 ^ k ≤ 2 ^ 8 := Nat.pow_le_pow_right (by omega) (by omega)
  have hp0 := Nat.two_pow_pos k
  have hwl := whereC_lt hv (k : Nat)
  repeat refine gwp_seq ?_
  refine gwp_region ?_
  refine v0 (k := ?_)
  refine v0 (k := ?_)
  refine v0 (k := ?_)
  refine v0 (k := ?_)
  refine nil0 ?_
  repeat refine gwp_seq ?_
  refine cB (k1 := fun hb1 => ?_) (k0 := fun hb1 => ?_)
  · replace hb1 := hB.h {} hb1
    try rw [eqI] at hb1
    repeat refine gwp_seq ?_
    refine gwp_skip ?_
    refine cl [1, 2, 8, 9, 10] (k := ?_)
    repeat refine gwp_seq ?_
    refine gwp_block ?_
    repeat refine gwp_seq ?_
    refine gwp_region ?_
    refine v0 (k := ?_)
    refine v0 (k := ?_)
    refine pc0 (spec := r_where c hv hc k (by omega)) (hent := ent72) (k := ?_)
    refine v0 (k := ?_)
    refine nil0 ?_
    refine cl [1, 2, 8, 9, 10, 11] (k := ?_)
    repeat refine gwp_seq ?_
    refine gwp_region ?_
    refine v0 (k := ?_)
    refine v0 (k := ?_)
    refine pc0 (spec := r_power x (by omega)) (hent := ent85) (k := ?_)
    refine v0 (k := ?_)
    refine nil0 ?_
    repeat refine gwp_seq ?_
    refine cB (k1 := fun hb2 => ?_) (k0 := fun hb2 => ?_)
    · replace hb2 := hB.h {} hb2
      try rw [eqI] at hb2
      repeat refine gwp_seq ?_
      refine gwp_region ?_
      refine v0 (k := ?_)
      refine v0 (k := ?_)
      refine pc0 (spec := r_power k (by omega)) (hent := ent85) (k := ?_)
      refine v1 (hc := kWn1.h {}) (k := ?_)
      refine v0 (k := ?_)
      refine nil0 ?_
      refine cl [1, 2, 8, 9, 10, 11] (k := ?_)
      repeat refine gwp_seq ?_
      refine gwp_region ?_
      refine v0 (k := ?_)
      refine v0 (k := ?_)
      refine pc0 (spec := r_has (whereC c (k : Nat)) x (by omega) (by omega)) (hent := ent90) (k := ?_)
      refine nil0 ?_
      repeat refine gwp_seq ?_
      refine cB (k1 := fun hb3 => ?_) (k0 := fun hb3 => ?_)
      · replace hb3 := hB.h {} hb3
        try rw [eqI] at hb3
        repeat refine gwp_seq ?_
        refine gwp_region ?_
        refine v0 (k := ?_)
        refine v0 (k := ?_)
        refine pc0 (spec := r_power k (by omega)) (hent := ent85) (k := ?_)
        refine v1 (hc := kWn1.h {}) (k := ?_)
        refine v0 (k := ?_)
        refine nil0 ?_
        refine cl [1, 2, 8, 9, 10] (k := ?_)
        repeat refine gwp_seq ?_
        refine gwp_region ?_
        refine v0 (k := ?_)
        refine v1 (hc := kWn1.h {}) (k := ?_)
        refine v0 (k := ?_)
        refine nil0 ?_
        refine lend [1, 2, 8, 9, 10] (h := ?_) (hV := ?_) (n' := c.pl.toNat - (k + 1))
        · omega
        first
        | exact ⟨k + 1, by omega, rfl, sgE (by rw [setP_t (q := (fun k => decide (whereC c (k : Nat) = 2 ^ x))) (decide_eq_true (by omega)), setP_t (q := (fun k => (whereC c (k : Nat)).testBit x)) (by assumption)]; rfl) rfl⟩
        | exact ⟨k + 1, by omega, rfl, sgE (by rw [setP_t (q := (fun k => decide (whereC c (k : Nat) = 2 ^ x))) (decide_eq_true (by omega)), setP_f (q := (fun k => (whereC c (k : Nat)).testBit x)) (by assumption)]; rfl) rfl⟩
        | exact ⟨k + 1, by omega, rfl, sgE (by rw [setP_f (q := (fun k => decide (whereC c (k : Nat) = 2 ^ x))) (decide_eq_false (by omega)), setP_t (q := (fun k => (whereC c (k : Nat)).testBit x)) (by assumption)]; rfl) rfl⟩
        | exact ⟨k + 1, by omega, rfl, sgE (by rw [setP_f (q := (fun k => decide (whereC c (k : Nat) = 2 ^ x))) (decide_eq_false (by omega)), setP_f (q := (fun k => (whereC c (k : Nat)).testBit x)) (by assumption)]; rfl) rfl⟩
      · replace hb3 := hB.h {} hb3
        try rw [eqI] at hb3
        repeat refine gwp_seq ?_
        refine gwp_skip ?_
        refine cl [1, 2, 8, 9, 10] (k := ?_)
        repeat refine gwp_seq ?_
        refine gwp_region ?_
        refine v0 (k := ?_)
        refine v1 (hc := kWn1.h {}) (k := ?_)
        refine v0 (k := ?_)
        refine nil0 ?_
        refine lend [1, 2, 8, 9, 10] (h := ?_) (hV := ?_) (n' := c.pl.toNat - (k + 1))
        · omega
        first
        | exact ⟨k + 1, by omega, rfl, sgE (by rw [setP_t (q := (fun k => decide (whereC c (k : Nat) = 2 ^ x))) (decide_eq_true (by omega)), setP_t (q := (fun k => (whereC c (k : Nat)).testBit x)) (by assumption)]; rfl) rfl⟩
        | exact ⟨k + 1, by omega, rfl, sgE (by rw [setP_t (q := (fun k => decide (whereC c (k : Nat) = 2 ^ x))) (decide_eq_true (by omega)), setP_f (q := (fun k => (whereC c (k : Nat)).testBit x)) (by assumption)]; rfl) rfl⟩
        | exact ⟨k + 1, by omega, rfl, sgE (by rw [setP_f (q := (fun k => decide (whereC c (k : Nat) = 2 ^ x))) (decide_eq_false (by omega)), setP_t (q := (fun k => (whereC c (k : Nat)).testBit x)) (by assumption)]; rfl) rfl⟩
        | exact ⟨k + 1, by omega, rfl, sgE (by rw [setP_f (q := (fun k => decide (whereC c (k : Nat) = 2 ^ x))) (decide_eq_false (by omega)), setP_f (q := (fun k => (whereC c (k : Nat)).testBit x)) (by assumption)]; rfl) rfl⟩
    · replace hb2 := hB.h {} hb2
      try rw [eqI] at hb2
      repeat refine gwp_seq ?_
      refine gwp_skip ?_
      refine cl [1, 2, 8, 9, 10, 11] (k := ?_)
      repeat refine gwp_seq ?_
      refine gwp_region ?_
      refine v0 (k := ?_)
      refine v0 (k := ?_)
      refine pc0 (spec := r_has (whereC c (k : Nat)) x (by omega) (by omega)) (hent := ent90) (k := ?_)
      refine nil0 ?_
      repeat refine gwp_seq ?_
      refine cB (k1 := fun hb4 => ?_) (k0 := fun hb4 => ?_)
      · replace hb4 := hB.h {} hb4
        try rw [eqI] at hb4
        repeat refine gwp_seq ?_
        refine gwp_region ?_
        refine v0 (k := ?_)
        refine v0 (k := ?_)
        refine pc0 (spec := r_power k (by omega)) (hent := ent85) (k := ?_)
        refine v1 (hc := kWn1.h {}) (k := ?_)
        refine v0 (k := ?_)
        refine nil0 ?_
        refine cl [1, 2, 8, 9, 10] (k := ?_)
        repeat refine gwp_seq ?_
        refine gwp_region ?_
        refine v0 (k := ?_)
        refine v1 (hc := kWn1.h {}) (k := ?_)
        refine v0 (k := ?_)
        refine nil0 ?_
        refine lend [1, 2, 8, 9, 10] (h := ?_) (hV := ?_) (n' := c.pl.toNat - (k + 1))
        · omega
        first
        | exact ⟨k + 1, by omega, rfl, sgE (by rw [setP_t (q := (fun k => decide (whereC c (k : Nat) = 2 ^ x))) (decide_eq_true (by omega)), setP_t (q := (fun k => (whereC c (k : Nat)).testBit x)) (by assumption)]; rfl) rfl⟩
        | exact ⟨k + 1, by omega, rfl, sgE (by rw [setP_t (q := (fun k => decide (whereC c (k : Nat) = 2 ^ x))) (decide_eq_true (by omega)), setP_f (q := (fun k => (whereC c (k : Nat)).testBit x)) (by assumption)]; rfl) rfl⟩
        | exact ⟨k + 1, by omega, rfl, sgE (by rw [setP_f (q := (fun k => decide (whereC c (k : Nat) = 2 ^ x))) (decide_eq_false (by omega)), setP_t (q := (fun k => (whereC c (k : Nat)).testBit x)) (by assumption)]; rfl) rfl⟩
        | exact ⟨k + 1, by omega, rfl, sgE (by rw [setP_f (q := (fun k => decide (whereC c (k : Nat) = 2 ^ x))) (decide_eq_false (by omega)), setP_f (q := (fun k => (whereC c (k : Nat)).testBit x)) (by assumption)]; rfl) rfl⟩
      · replace hb4 := hB.h {} hb4
        try rw [eqI] at hb4
        repeat refine gwp_seq ?_
        refine gwp_skip ?_
        refine cl [1, 2, 8, 9, 10] (k := ?_)
        repeat refine gwp_seq ?_
        refine gwp_region ?_
        refine v0 (k := ?_)
        refine v1 (hc := kWn1.h {}) (k := ?_)
        refine v0 (k := ?_)
        refine nil0 ?_
        refine lend [1, 2, 8, 9, 10] (h := ?_) (hV := ?_) (n' := c.pl.toNat - (k + 1))
        · omega
        first
        | exact ⟨k + 1, by omega, rfl, sgE (by rw [setP_t (q := (fun k => decide (whereC c (k : Nat) = 2 ^ x))) (decide_eq_true (by omega)), setP_t (q := (fun k => (whereC c (k : Nat)).testBit x)) (by assumption)]; rfl) rfl⟩
        | exact ⟨k + 1, by omega, rfl, sgE (by rw [setP_t (q := (fun k => decide (whereC c (k : Nat) = 2 ^ x))) (decide_eq_true (by omega)), setP_f (q := (fun k => (whereC c (k : Nat)).testBit x)) (by assumption)]; rfl) rfl⟩
        | exact ⟨k + 1, by omega, rfl, sgE (by rw [setP_f (q := (fun k => decide (whereC c (k : Nat) = 2 ^ x))) (decide_eq_false (by omega)), setP_t (q := (fun k => (whereC c (k : Nat)).testBit x)) (by assumption)]; rfl) rfl⟩
        | exact ⟨k + 1, by omega, rfl, sgE (by rw [setP_f (q := (fun k => decide (whereC c (k : Nat) = 2 ^ x))) (decide_eq_false (by omega)), setP_f (q := (fun k => (whereC c (k : Nat)).testBit x)) (by assumption)]; rfl) rfl⟩
  · replace hb1 := hB.h {} hb1
    try rw [eqI] at hb1
    repeat refine gwp_seq ?_
    refine gwp_exit ?_
    repeat (first | refine gthen_exit ?_ | refine gnoGoto_exit ?_ | refine gblock_here ?_ | refine gblock_out rfl ?_)
    refine cl [8, 9] (k := ?_)
    repeat refine gwp_seq ?_
    refine gwp_region ?_
    refine v0 (k := ?_)
    refine v0 (k := ?_)
    refine v0 (k := ?_)
    refine v0 (k := ?_)
    refine v0 (k := ?_)
    refine nil0 ?_
    repeat refine gwp_seq ?_
    refine gwp_ret ?_
    repeat (first | refine gthen_ret ?_ | refine gblock_ret ?_ | refine gnoGoto_ret ?_)
    refine fin_ret ?_
    refine fp3 (hR := ?_)
    obtain rfl : k = c.pl.toNat := by omega
    rw [← setP_sure hv hx8, ← setP_can]
    rfl
theorem r_Holds_r (c : Ch) (hv : c.valid = true) (x : Int) (hq : inQ x c.ps = false) : PSpec Try.prog 29 [.agg [.int .i64 c.pl, .int .i64 c.ps, .list (c.kn.map pk), .list (c.rs.map pr), .int .i64 c.ms], .int .i64 x] (.ok (.tuple [.int .i64 0, .int .i64 0, .int .i64 2])) := by
  refine pspec_of Try.func29 (rfl : Try.f29.body = some _) rfl ?_
  intro E A C hN hL
  replace hN : C.N = 46 := hN
  simp only [Gh.num, List.map_cons, List.map_nil, Nat.reduceAdd]
  have hn := valid_num hv
  have hdt : ∀ (i : Decidable True), @decide True i = true := fun i => decide_eq_true trivial
  have hdf : ∀ (i : Decidable False), @decide False i = false := fun i => decide_eq_false id
  repeat refine gwp_seq ?_
  refine gwp_region ?_
  refine n1 120 false (hc := kWn1.h {}) (k := ?_)
  refine v0 (k := ?_)
  refine v0 (k := ?_)
  refine v0 (k := ?_)
  refine nil0 ?_
  refine cl [1, 2] (k := ?_)
  repeat refine gwp_seq ?_
  refine rd ?_
  refine d0 0 (k := ?_)
  refine d0 1 (k := ?_)
  refine d0 2 (k := ?_)
  refine dpc0 3 (spec := r_personT c hv x hq) (hent := ent89) (k := ?_)
  refine dpc0 4 (spec := r_open_r c hv) (hent := ent71) (k := ?_)
  refine d0 5 (k := ?_)
  refine dz 6 [0, 0, 0, 6, 15, 31] (h := ?_)
  refine de 6 (h := ?_)
  refine cl [1, 2, 7] (k := ?_)
  repeat refine gwp_seq ?_
  refine gwp_region ?_
  refine v0 (k := ?_)
  refine v0 (k := ?_)
  refine rb 18 true (h := by (first | rfl | decide)) (k := ?_)
  refine nil0 ?_
  repeat refine gwp_seq ?_
  refine cT (k := ?_)
  repeat refine gwp_seq ?_
  refine gwp_region ?_
  refine v0 (k := ?_)
  refine v0 (k := ?_)
  refine v0 (k := ?_)
  refine v0 (k := ?_)
  refine nil0 ?_
  repeat refine gwp_seq ?_
  refine gwp_ret ?_
  repeat (first | refine gthen_ret ?_ | refine gblock_ret ?_ | refine gnoGoto_ret ?_)
  refine fin_ret ?_
  refine fp3 (hR := ?_)
  rfl
theorem r_Holds_c (c : Ch) (hv : c.valid = true) (x : Int) (hq : inQ x c.ps = true) (hc : ¬ leastC c ≤ c.ms) : PSpec Try.prog 29 [.agg [.int .i64 c.pl, .int .i64 c.ps, .list (c.kn.map pk), .list (c.rs.map pr), .int .i64 c.ms], .int .i64 x] (.ok (.tuple [.int .i64 0, .int .i64 0, .int .i64 10])) := by
  refine pspec_of Try.func29 (rfl : Try.f29.body = some _) rfl ?_
  intro E A C hN hL
  replace hN : C.N = 46 := hN
  simp only [Gh.num, List.map_cons, List.map_nil, Nat.reduceAdd]
  have hn := valid_num hv
  have hdt : ∀ (i : Decidable True), @decide True i = true := fun i => decide_eq_true trivial
  have hdf : ∀ (i : Decidable False), @decide False i = false := fun i => decide_eq_false id
  repeat refine gwp_seq ?_
  refine gwp_region ?_
  refine n1 120 false (hc := kWn1.h {}) (k := ?_)
  refine v0 (k := ?_)
  refine v0 (k := ?_)
  refine v0 (k := ?_)
  refine nil0 ?_
  refine cl [1, 2] (k := ?_)
  repeat refine gwp_seq ?_
  refine rd ?_
  refine d0 0 (k := ?_)
  refine d0 1 (k := ?_)
  refine d0 2 (k := ?_)
  refine dpc0 3 (spec := r_personT c hv x hq) (hent := ent89) (k := ?_)
  refine dpc0 4 (spec := r_open_c c hv hc) (hent := ent71) (k := ?_)
  refine d0 5 (k := ?_)
  refine dz 6 [0, 0, 0, 6, 15, 31] (h := ?_)
  refine de 6 (h := ?_)
  refine cl [1, 2, 7] (k := ?_)
  repeat refine gwp_seq ?_
  refine gwp_region ?_
  refine v0 (k := ?_)
  refine v0 (k := ?_)
  refine rb 18 true (h := by (first | rfl | decide)) (k := ?_)
  refine nil0 ?_
  repeat refine gwp_seq ?_
  refine cT (k := ?_)
  repeat refine gwp_seq ?_
  refine gwp_region ?_
  refine v0 (k := ?_)
  refine v0 (k := ?_)
  refine v0 (k := ?_)
  refine v0 (k := ?_)
  refine nil0 ?_
  repeat refine gwp_seq ?_
  refine gwp_ret ?_
  repeat (first | refine gthen_ret ?_ | refine gblock_ret ?_ | refine gnoGoto_ret ?_)
  refine fin_ret ?_
  refine fp3 (hR := ?_)
  rfl
theorem r_Holds_f (c : Ch) (h1 : c.kn.length ≤ 1048576) (h2 : c.rs.length ≤ 1048576) (hv : c.valid = false) (x : Int) : PSpec Try.prog 29 [.agg [.int .i64 c.pl, .int .i64 c.ps, .list (c.kn.map pk), .list (c.rs.map pr), .int .i64 c.ms], .int .i64 x] (.ok (.tuple [.int .i64 0, .int .i64 0, .int .i64 1])) := by
  refine pspec_of Try.func29 (rfl : Try.f29.body = some _) rfl ?_
  intro E A C hN hL
  replace hN : C.N = 46 := hN
  simp only [Gh.num, List.map_cons, List.map_nil, Nat.reduceAdd]
  have hdt : ∀ (i : Decidable True), @decide True i = true := fun i => decide_eq_true trivial
  have hdf : ∀ (i : Decidable False), @decide False i = false := fun i => decide_eq_false id
  repeat refine gwp_seq ?_
  refine gwp_region ?_
  refine n1 120 false (hc := kWn1.h {}) (k := ?_)
  refine v0 (k := ?_)
  refine v0 (k := ?_)
  refine v0 (k := ?_)
  refine nil0 ?_
  refine cl [1, 2] (k := ?_)
  repeat refine gwp_seq ?_
  refine rd ?_
  refine d0 0 (k := ?_)
  refine d0 1 (k := ?_)
  refine d0 2 (k := ?_)
  refine dpc0 3 (spec := r_personW c x) (hent := ent89) (k := ?_)
  refine dpc0 4 (spec := r_open_f c h1 h2 hv _) (hent := ent71) (k := ?_)
  refine d0 5 (k := ?_)
  refine dz 6 [0, 0, 0, 6, 15, 31] (h := ?_)
  refine de 6 (h := ?_)
  refine cl [1, 2, 7] (k := ?_)
  repeat refine gwp_seq ?_
  refine gwp_region ?_
  refine v0 (k := ?_)
  refine v0 (k := ?_)
  refine rb 18 true (h := by (first | rfl | decide)) (k := ?_)
  refine nil0 ?_
  repeat refine gwp_seq ?_
  refine cT (k := ?_)
  repeat refine gwp_seq ?_
  refine gwp_region ?_
  refine v0 (k := ?_)
  refine v0 (k := ?_)
  refine v0 (k := ?_)
  refine v0 (k := ?_)
  refine nil0 ?_
  repeat refine gwp_seq ?_
  refine gwp_ret ?_
  repeat (first | refine gthen_ret ?_ | refine gblock_ret ?_ | refine gnoGoto_ret ?_)
  refine fin_ret ?_
  refine fp3 (hR := ?_)
  rfl
end Go.Proofs.Ytagdholenfkeaaa

/- The document: Hands, Drop. -/
namespace Go.Proofs.Ytagdholenfkeaaa
open Go.Gh
set_option maxRecDepth 100000
set_option maxHeartbeats 4000000
structure kWo1 (c : Prop) : Prop where
  h : c := by (first | exact True.intro | omega | (simp only [List.length_map, stt_len, G.one, P.one, good, inI, Nat.add_zero, Nat.mul_one]; omega) | (simp [stt_len, G.one, P.one, good, goods, inI, allOne]; done) | (simp [stt_len, G.one, P.one, good, goods, inI, allOne]; omega) | (simp [stt_len, allOne_p, goods_p, G.one, P.one, good, goods, inI, allOne, stt]; done))
structure kWo2 (c : Prop) : Prop where
  h : c := by (first | exact True.intro | (simp only [inI]; omega) | (simp [P.size, pr, pk, all_int, allOne_p, goods_p, allOne, goods, good, G.one, P.one, P.cells] <;> first | omega | assumption | simp_all))
theorem setN_congr2 {p q : Nat → Bool} : ∀ n, (∀ i, i < n → p i = q i) → setN p n = setN q n
  | 0, _ => rfl
  | n + 1, h => by rw [setN, setN, setN_congr2 n fun i hi => h i (by omega), h n (by omega)]
/-- Is it so of one of the first persons? -/
def anyB (S : Mx) (j : Nat) (N ms : Int) : Nat → Bool
  | 0 => false
  | k + 1 => anyB S j N ms k || decide (S k j + N ≤ ms)
theorem anyB_iff {S : Mx} {j : Nat} {N ms : Int} : ∀ k, anyB S j N ms k = true ↔ ∃ i, i < k ∧ S i j + N ≤ ms
  | 0 => by simp [anyB]
  | k + 1 => by
    rw [anyB, Bool.or_eq_true, anyB_iff k, decide_eq_true_iff]
    constructor
    · rintro (⟨i, hi, h⟩ | h)
      · exact ⟨i, by omega, h⟩
      · exact ⟨k, by omega, h⟩
    · rintro ⟨i, hi, h⟩
      by_cases e : i = k
      · subst e; exact .inr h
      · exact .inl ⟨i, by omega, h⟩
theorem ent27 : Enters Try.prog 27 := Enters.mk Try.func27 (by kernel_rfl) rfl
theorem r_HandsP (c : Ch) (hv : c.valid = true) (x : Nat) (hq : inQ (x : Nat) c.pl = true) (hc : leastC c ≤ c.ms) : PSpec Try.prog 27 [.agg [.int .i64 c.pl, .int .i64 c.ps, .list (c.kn.map pk), .list (c.rs.map pr), .int .i64 c.ms], .int .i64 (x : Nat)] (.ok (.tuple [.int .i64 (setP (fun u => !(anyB (aftG (kE c.kn) u c.ps.toNat (selC c (x : Nat) (allS c.rs.length))) 0 (nedR c (allS c.rs.length) (x : Nat) c.pl.toNat) c.ms c.ps.toNat)) c.ps.toNat : Nat), .int .i64 (setP (fun u => (anyB (aftG (kE c.kn) u c.ps.toNat (selC c (x : Nat) (allS c.rs.length))) 1 (nedR c (allS c.rs.length) (x : Nat) c.pl.toNat) c.ms c.ps.toNat)) c.ps.toNat : Nat), .int .i64 0])) := by
  refine pspec_of Try.func27 (rfl : Try.f27.body = some _) rfl ?_
  intro E A C hN hL
  replace hN : C.N = 86 := hN
  simp only [Gh.num, List.map_cons, List.map_nil, Nat.reduceAdd]
  have hn := valid_num hv
  have hal := allS_lt (n := c.rs.length) (by omega)
  have hdt : ∀ (i : Decidable True), @decide True i = true := fun i => decide_eq_true trivial
  have hdf : ∀ (i : Decidable False), @decide False i = false := fun i => decide_eq_false id
  have htk := takeS
  have hdr := dropS
  have hone := oneS
  have hlen := stt_len
  have hx := hq
  simp only [inQ, Bool.and_eq_true, decide_eq_true_eq] at hx
  have hx2 : ((x : Nat) : Int) < c.pl := by omega
  have hbd := fun u : Nat => aftG_bd (e := kE c.kn) (who := u) (P := c.ps.toNat) (selC c (x : Nat) (allS c.rs.length))
  have hnr := nedR_in c (allS c.rs.length) (x : Nat) c.pl.toNat
  repeat refine gwp_seq ?_
  refine gwp_region ?_
  refine n1 120 false (hc := kWo1.h {}) (k := ?_)
  refine v0 (k := ?_)
  refine v0 (k := ?_)
  refine v0 (k := ?_)
  refine nil0 ?_
  refine cl [1, 2] (k := ?_)
  repeat refine gwp_seq ?_
  refine rd ?_
  refine d0 0 (k := ?_)
  refine d0 1 (k := ?_)
  refine d0 2 (k := ?_)
  refine dpc0 3 (spec := r_plateT c hv (x : Nat) hq) (hent := ent49) (k := ?_)
  refine dpc0 4 (spec := r_open_t c hv hc) (hent := ent71) (k := ?_)
  refine d0 5 (k := ?_)
  refine dz 6 [0, 0, 0, 6, 15, 31] (h := ?_)
  refine de 6 (h := ?_)
  refine cl [1, 2, 7] (k := ?_)
  repeat refine gwp_seq ?_
  refine gwp_region ?_
  refine v0 (k := ?_)
  refine v0 (k := ?_)
  refine rb 21 false (h := by (first | rfl | decide)) (k := ?_)
  refine nil0 ?_
  repeat refine gwp_seq ?_
  refine cF (k := ?_)
  repeat refine gwp_seq ?_
  refine gwp_skip ?_
  refine cl [1, 2] (k := ?_)
  repeat refine gwp_seq ?_
  refine gwp_region ?_
  refine v0 (k := ?_)
  refine v0 (k := ?_)
  refine nil0 ?_
  refine cl [1, 2, 8, 9] (k := ?_)
  repeat refine gwp_seq ?_
  refine gwp_region ?_
  refine v0 (k := ?_)
  refine nil0 ?_
  refine cl [1, 2, 8, 9, 10] (k := ?_)
  repeat refine gwp_seq ?_
  refine gwp_block ?_
  repeat refine gwp_seq ?_
  refine gc_loop (fun mz σ => ∃ u : Nat, ((u : Int) ≤ c.ps) ∧ mz = c.ps.toNat - u ∧ σ = (sg [(1, .p (.int .i64 (x : Nat))), (2, .ref 120 0), (8, .p (.int .i64 (setP (fun u => !(anyB (aftG (kE c.kn) u c.ps.toNat (selC c (x : Nat) (allS c.rs.length))) 0 (nedR c (allS c.rs.length) (x : Nat) c.pl.toNat) c.ms c.ps.toNat)) u : Nat))), (9, .p (.int .i64 (setP (fun u => (anyB (aftG (kE c.kn) u c.ps.toNat (selC c (x : Nat) (allS c.rs.length))) 1 (nedR c (allS c.rs.length) (x : Nat) c.pl.toNat) c.ms c.ps.toNat)) u : Nat))), (10, .p (.int .i64 (u : Nat)))] [(120, .cells [.p (.int .i64 c.pl), .p (.int .i64 c.ps), .p (.list (c.kn.map pk)), .p (.list (c.rs.map pr)), .p (.int .i64 c.ms)] 0)] A [] : Sg E)) ?_ (fun mz σ hI => ?_)
  · refine lbeg [1, 2, 8, 9, 10] (hV := ?_)
    exact ⟨_, 0, by omega, rfl, rfl⟩
  obtain ⟨u, hu, hnn, rfl⟩ := hI
  have hs1 := setP_8 (fun u => !(anyB (aftG (kE c.kn) u c.ps.toNat (selC c (x : Nat) (allS c.rs.length))) 0 (nedR c (allS c.rs.length) (x : Nat) c.pl.toNat) c.ms c.ps.toNat)) (k := u) (by omega)
  have hs2 := setP_8 (fun u => (anyB (aftG (kE c.kn) u c.ps.toNat (selC c (x : Nat) (allS c.rs.length))) 1 (nedR c (allS c.rs.length) (x : Nat) c.pl.toNat) c.ms c.ps.toNat)) (k := u) (by omega)
  have hpw : 2 ^ u ≤ 2 ^ 8 := Nat.pow_le_pow_right (by omega) (by omega)
  have hp0 := Nat.two_pow_pos u
  repeat refine gwp_seq ?_
  refine gwp_region ?_
  refine v0 (k := ?_)
  refine v0 (k := ?_)
  refine v0 (k := ?_)
  refine v0 (k := ?_)
  refine nil0 ?_
  repeat refine gwp_seq ?_
  refine cB (k1 := fun hb1 => ?_) (k0 := fun hb1 => ?_)
  · replace hb1 := hB.h {} hb1
    try rw [eqI] at hb1
    repeat refine gwp_seq ?_
    refine gwp_skip ?_
    refine cl [1, 2, 8, 9, 10] (k := ?_)
    repeat refine gwp_seq ?_
    refine gwp_block ?_
    repeat refine gwp_seq ?_
    refine rd ?_
    refine d0 0 (k := ?_)
    refine d0 1 (k := ?_)
    refine d0 2 (k := ?_)
    refine dpc0 3 (spec := r_every c hv) (hent := ent66) (k := ?_)
    refine d0 4 (k := ?_)
    refine dpc0 5 (spec := r_after c hv (x : Nat) (allS c.rs.length) hal u (by omega)) (hent := ent84) (k := ?_)
    refine dn1 6 210 false (hc := kWo1.h {}) (k := ?_)
    refine ds1 7 (hc := kWo1.h {}) (k := ?_)
    refine dz 8 [0, 0, 0, 4, 0, 31, 0, 127] (h := ?_)
    refine de 8 (h := ?_)
    refine cl [1, 2, 8, 9, 10, 11] (k := ?_)
    repeat refine gwp_seq ?_
    refine gwp_region ?_
    refine v0 (k := ?_)
    refine v0 (k := ?_)
    refine nil0 ?_
    refine cl [1, 2, 8, 9, 10, 11, 12, 13] (k := ?_)
    repeat refine gwp_seq ?_
    refine gwp_region ?_
    refine v0 (k := ?_)
    refine nil0 ?_
    refine cl [1, 2, 8, 9, 10, 11, 12, 13, 14] (k := ?_)
    repeat refine gwp_seq ?_
    refine gwp_block ?_
    repeat refine gwp_seq ?_
    refine gc_loop (fun mz σ => ∃ k : Nat, ((k : Int) ≤ c.ps) ∧ mz = c.ps.toNat - k ∧ σ = (sg [(1, .p (.int .i64 (x : Nat))), (2, .ref 120 0), (8, .p (.int .i64 (setP (fun u => !(anyB (aftG (kE c.kn) u c.ps.toNat (selC c (x : Nat) (allS c.rs.length))) 0 (nedR c (allS c.rs.length) (x : Nat) c.pl.toNat) c.ms c.ps.toNat)) u : Nat))), (9, .p (.int .i64 (setP (fun u => (anyB (aftG (kE c.kn) u c.ps.toNat (selC c (x : Nat) (allS c.rs.length))) 1 (nedR c (allS c.rs.length) (x : Nat) c.pl.toNat) c.ms c.ps.toNat)) u : Nat))), (10, .p (.int .i64 (u : Nat))), (11, .ref 210 0), (12, .p (.bool (anyB (aftG (kE c.kn) u c.ps.toNat (selC c (x : Nat) (allS c.rs.length))) 1 (nedR c (allS c.rs.length) (x : Nat) c.pl.toNat) c.ms k))), (13, .p (.bool (anyB (aftG (kE c.kn) u c.ps.toNat (selC c (x : Nat) (allS c.rs.length))) 0 (nedR c (allS c.rs.length) (x : Nat) c.pl.toNat) c.ms k))), (14, .p (.int .i64 (k : Nat)))] [(120, .cells [.p (.int .i64 c.pl), .p (.int .i64 c.ps), .p (.list (c.kn.map pk)), .p (.list (c.rs.map pr)), .p (.int .i64 c.ms)] 0), (210, .cells ((stt (aftG (kE c.kn) u c.ps.toNat (selC c (x : Nat) (allS c.rs.length)))).map G.p) 0)] A [] : Sg E)) ?_ (fun mz σ hI => ?_)
    · refine lbeg [1, 2, 8, 9, 10, 11, 12, 13, 14] (hV := ?_)
      exact ⟨_, 0, by omega, rfl, rfl⟩
    obtain ⟨k, hk, hnn2, rfl⟩ := hI
    repeat refine gwp_seq ?_
    refine gwp_region ?_
    refine v0 (k := ?_)
    refine v0 (k := ?_)
    refine v0 (k := ?_)
    refine v0 (k := ?_)
    refine nil0 ?_
    repeat refine gwp_seq ?_
    refine cB (k1 := fun hb2 => ?_) (k0 := fun hb2 => ?_)
    · replace hb2 := hB.h {} hb2
      try rw [eqI] at hb2
      repeat refine gwp_seq ?_
      refine gwp_skip ?_
      refine cl [1, 2, 8, 9, 10, 11, 12, 13, 14] (k := ?_)
      repeat refine gwp_seq ?_
      refine gwp_block ?_
      repeat refine gwp_seq ?_
      have g1 := stt_get (aftG (kE c.kn) u c.ps.toNat (selC c (x : Nat) (allS c.rs.length))) (x := k) (by omega) (y := 0) (by omega)
      rw [Nat.add_zero] at g1
      have g2 := stt_get (aftG (kE c.kn) u c.ps.toNat (selC c (x : Nat) (allS c.rs.length))) (x := k) (by omega) (y := 1) (by omega)
      have b1 := hbd u k 0
      have b2 := hbd u k 1
      refine rd ?_
      refine d0 0 (k := ?_)
      refine d0 1 (k := ?_)
      refine db0 2 42 (k1 := fun hb3 => ?_) (k0 := fun hb3 => ?_)
      · replace hb3 := hB.h {} hb3
        try rw [eqI] at hb3
        refine dx0 2 (k := ?_)
        refine dx0 3 (k := ?_)
        refine dx0 4 (k := ?_)
        refine dx0 5 (k := ?_)
        refine dx0 6 (k := ?_)
        refine dx0 7 (k := ?_)
        refine dx0 8 (k := ?_)
        refine dx0 9 (k := ?_)
        refine dx0 10 (k := ?_)
        refine dx0 11 (k := ?_)
        refine dx0 12 (k := ?_)
        refine dx0 13 (k := ?_)
        refine dx0 14 (k := ?_)
        refine d0 15 (k := ?_)
        refine d0 16 (k := ?_)
        refine dz 17 [0, 1, 3, 7, 15, 31, 3, 3, 131, 3, 963, 2047, 3, 4099, 16383, 32767, 65535] (h := ?_)
        refine de 17 (h := ?_)
        refine cl [1, 2, 8, 9, 10, 11, 12, 13, 14] (k := ?_)
        repeat refine gwp_seq ?_
        refine rd ?_
        refine d0 0 (k := ?_)
        refine d0 1 (k := ?_)
        refine db0 2 58 (k1 := fun hb4 => ?_) (k0 := fun hb4 => ?_)
        · replace hb4 := hB.h {} hb4
          try rw [eqI] at hb4
          refine dx0 2 (k := ?_)
          refine dx0 3 (k := ?_)
          refine dx0 4 (k := ?_)
          refine dx0 5 (k := ?_)
          refine dx0 6 (k := ?_)
          refine dx0 7 (k := ?_)
          refine dx0 8 (k := ?_)
          refine dx0 9 (k := ?_)
          refine dx0 10 (k := ?_)
          refine dx0 11 (k := ?_)
          refine dx0 12 (k := ?_)
          refine dx0 13 (k := ?_)
          refine dx0 14 (k := ?_)
          refine d0 15 (k := ?_)
          refine d0 16 (k := ?_)
          refine dz 17 [0, 1, 3, 7, 15, 31, 3, 3, 131, 3, 963, 2047, 3, 4099, 16383, 32767, 65535] (h := ?_)
          refine de 17 (h := ?_)
          refine cl [1, 2, 8, 9, 10, 11, 12, 13, 14] (k := ?_)
          repeat refine gwp_seq ?_
          refine gwp_region ?_
          refine v0 (k := ?_)
          refine v1 (hc := kWo1.h {}) (k := ?_)
          refine v0 (k := ?_)
          refine nil0 ?_
          refine lend [1, 2, 8, 9, 10, 11, 12, 13, 14] (h := ?_) (hV := ?_) (n' := c.ps.toNat - (k + 1))
          · omega
          exact ⟨k + 1, by omega, rfl, sgE (by simp only [anyB, *, Bool.true_or, Bool.false_or]; rfl) rfl⟩
        · replace hb4 := hB.h {} hb4
          try rw [eqI] at hb4
          refine dw0 2 (k := ?_)
          refine dw1 3 (hc := kWo1.h {}) (k := ?_)
          refine dw1 4 (hc := kWo1.h {}) (k := ?_)
          refine dw0 5 (k := ?_)
          refine dw0 6 (k := ?_)
          refine dw0 7 (k := ?_)
          refine dpcw 8 (spec := r_every c hv) (hent := ent66) (k := ?_)
          refine dw0 9 (k := ?_)
          refine dpcw 10 (spec := r_Needs c hv (allS c.rs.length) hal (x : Nat)) (hent := ent65) (k := ?_)
          refine dw1 11 (hc := kWo1.h {}) (k := ?_)
          refine dw0 12 (k := ?_)
          refine dw0 13 (k := ?_)
          refine dw0 14 (k := ?_)
          refine d0 15 (k := ?_)
          refine d0 16 (k := ?_)
          refine dz 17 [0, 1, 3, 7, 15, 31, 3, 3, 131, 3, 963, 2047, 3, 4099, 16383, 32767, 65535] (h := ?_)
          refine de 17 (h := ?_)
          refine cl [1, 2, 8, 9, 10, 11, 12, 13, 14] (k := ?_)
          repeat refine gwp_seq ?_
          refine gwp_region ?_
          refine v0 (k := ?_)
          refine v1 (hc := kWo1.h {}) (k := ?_)
          refine v0 (k := ?_)
          refine nil0 ?_
          refine lend [1, 2, 8, 9, 10, 11, 12, 13, 14] (h := ?_) (hV := ?_) (n' := c.ps.toNat - (k + 1))
          · omega
          exact ⟨k + 1, by omega, rfl, sgE (by simp only [anyB, *, Bool.true_or, Bool.false_or]; rfl) rfl⟩
      · replace hb3 := hB.h {} hb3
        try rw [eqI] at hb3
        refine dw0 2 (k := ?_)
        refine dw1 3 (hc := kWo1.h {}) (k := ?_)
        refine dw1 4 (hc := kWo1.h {}) (k := ?_)
        refine dw0 5 (k := ?_)
        refine dw0 6 (k := ?_)
        refine dw0 7 (k := ?_)
        refine dpcw 8 (spec := r_every c hv) (hent := ent66) (k := ?_)
        refine dw0 9 (k := ?_)
        refine dpcw 10 (spec := r_Needs c hv (allS c.rs.length) hal (x : Nat)) (hent := ent65) (k := ?_)
        refine dw1 11 (hc := kWo1.h {}) (k := ?_)
        refine dw0 12 (k := ?_)
        refine dw0 13 (k := ?_)
        refine dw0 14 (k := ?_)
        refine d0 15 (k := ?_)
        refine d0 16 (k := ?_)
        refine dz 17 [0, 1, 3, 7, 15, 31, 3, 3, 131, 3, 963, 2047, 3, 4099, 16383, 32767, 65535] (h := ?_)
        refine de 17 (h := ?_)
        refine cl [1, 2, 8, 9, 10, 11, 12, 13, 14] (k := ?_)
        repeat refine gwp_seq ?_
        refine rd ?_
        refine d0 0 (k := ?_)
        refine d0 1 (k := ?_)
        refine db0 2 58 (k1 := fun hb5 => ?_) (k0 := fun hb5 => ?_)
        · replace hb5 := hB.h {} hb5
          try rw [eqI] at hb5
          refine dx0 2 (k := ?_)
          refine dx0 3 (k := ?_)
          refine dx0 4 (k := ?_)
          refine dx0 5 (k := ?_)
          refine dx0 6 (k := ?_)
          refine dx0 7 (k := ?_)
          refine dx0 8 (k := ?_)
          refine dx0 9 (k := ?_)
          refine dx0 10 (k := ?_)
          refine dx0 11 (k := ?_)
          refine dx0 12 (k := ?_)
          refine dx0 13 (k := ?_)
          refine dx0 14 (k := ?_)
          refine d0 15 (k := ?_)
          refine d0 16 (k := ?_)
          refine dz 17 [0, 1, 3, 7, 15, 31, 3, 3, 131, 3, 963, 2047, 3, 4099, 16383, 32767, 65535] (h := ?_)
          refine de 17 (h := ?_)
          refine cl [1, 2, 8, 9, 10, 11, 12, 13, 14] (k := ?_)
          repeat refine gwp_seq ?_
          refine gwp_region ?_
          refine v0 (k := ?_)
          refine v1 (hc := kWo1.h {}) (k := ?_)
          refine v0 (k := ?_)
          refine nil0 ?_
          refine lend [1, 2, 8, 9, 10, 11, 12, 13, 14] (h := ?_) (hV := ?_) (n' := c.ps.toNat - (k + 1))
          · omega
          exact ⟨k + 1, by omega, rfl, sgE (by simp only [anyB, *, Bool.true_or, Bool.false_or]; rfl) rfl⟩
        · replace hb5 := hB.h {} hb5
          try rw [eqI] at hb5
          refine dw0 2 (k := ?_)
          refine dw1 3 (hc := kWo1.h {}) (k := ?_)
          refine dw1 4 (hc := kWo1.h {}) (k := ?_)
          refine dw0 5 (k := ?_)
          refine dw0 6 (k := ?_)
          refine dw0 7 (k := ?_)
          refine dpcw 8 (spec := r_every c hv) (hent := ent66) (k := ?_)
          refine dw0 9 (k := ?_)
          refine dpcw 10 (spec := r_Needs c hv (allS c.rs.length) hal (x : Nat)) (hent := ent65) (k := ?_)
          refine dw1 11 (hc := kWo1.h {}) (k := ?_)
          refine dw0 12 (k := ?_)
          refine dw0 13 (k := ?_)
          refine dw0 14 (k := ?_)
          refine d0 15 (k := ?_)
          refine d0 16 (k := ?_)
          refine dz 17 [0, 1, 3, 7, 15, 31, 3, 3, 131, 3, 963, 2047, 3, 4099, 16383, 32767, 65535] (h := ?_)
          refine de 17 (h := ?_)
          refine cl [1, 2, 8, 9, 10, 11, 12, 13, 14] (k := ?_)
          repeat refine gwp_seq ?_
          refine gwp_region ?_
          refine v0 (k := ?_)
          refine v1 (hc := kWo1.h {}) (k := ?_)
          refine v0 (k := ?_)
          refine nil0 ?_
          refine lend [1, 2, 8, 9, 10, 11, 12, 13, 14] (h := ?_) (hV := ?_) (n' := c.ps.toNat - (k + 1))
          · omega
          exact ⟨k + 1, by omega, rfl, sgE (by simp only [anyB, *, Bool.true_or, Bool.false_or]; rfl) rfl⟩
    · replace hb2 := hB.h {} hb2
      try rw [eqI] at hb2
      repeat refine gwp_seq ?_
      refine gwp_exit ?_
      repeat (first | refine gthen_exit ?_ | refine gnoGoto_exit ?_ | refine gblock_here ?_ | refine gblock_out rfl ?_)
      refine cl [1, 2, 8, 9, 10, 12, 13] (k := ?_)
      repeat refine gwp_seq ?_
      obtain rfl : k = c.ps.toNat := by omega
      refine gwp_region ?_
      refine v0 (k := ?_)
      refine nil0 ?_
      repeat refine gwp_seq ?_
      refine cB (k1 := fun hb6 => ?_) (k0 := fun hb6 => ?_)
      · replace hb6 := hB.h {} hb6
        try rw [eqI] at hb6
        repeat refine gwp_seq ?_
        refine gwp_region ?_
        refine v0 (k := ?_)
        refine v0 (k := ?_)
        refine pc0 (spec := r_power u (by omega)) (hent := ent85) (k := ?_)
        refine v1 (hc := kWo1.h {}) (k := ?_)
        refine v0 (k := ?_)
        refine nil0 ?_
        refine cl [1, 2, 8, 9, 10, 13] (k := ?_)
        repeat refine gwp_seq ?_
        refine gwp_region ?_
        refine v0 (k := ?_)
        refine v0 (k := ?_)
        refine nil0 ?_
        repeat refine gwp_seq ?_
        refine cB (k1 := fun hb7 => ?_) (k0 := fun hb7 => ?_)
        · replace hb7 := hB.h {} hb7
          try rw [eqI] at hb7
          repeat refine gwp_seq ?_
          refine gwp_region ?_
          refine v0 (k := ?_)
          refine v0 (k := ?_)
          refine pc0 (spec := r_power u (by omega)) (hent := ent85) (k := ?_)
          refine v1 (hc := kWo1.h {}) (k := ?_)
          refine v0 (k := ?_)
          refine nil0 ?_
          refine cl [1, 2, 8, 9, 10] (k := ?_)
          repeat refine gwp_seq ?_
          refine gwp_region ?_
          refine v0 (k := ?_)
          refine v1 (hc := kWo1.h {}) (k := ?_)
          refine v0 (k := ?_)
          refine nil0 ?_
          refine lend [1, 2, 8, 9, 10] (h := ?_) (hV := ?_) (n' := c.ps.toNat - (u + 1))
          · omega
          first
          | exact ⟨u + 1, by omega, rfl, sgE (by rw [setP_t (q := (fun u => !(anyB (aftG (kE c.kn) u c.ps.toNat (selC c (x : Nat) (allS c.rs.length))) 0 (nedR c (allS c.rs.length) (x : Nat) c.pl.toNat) c.ms c.ps.toNat))) (k := u) (by simp only [Bool.not_eq_true', Bool.not_eq_false']; assumption), setP_t (q := (fun u => (anyB (aftG (kE c.kn) u c.ps.toNat (selC c (x : Nat) (allS c.rs.length))) 1 (nedR c (allS c.rs.length) (x : Nat) c.pl.toNat) c.ms c.ps.toNat))) (k := u) (by assumption)]; rfl) rfl⟩
          | exact ⟨u + 1, by omega, rfl, sgE (by rw [setP_t (q := (fun u => !(anyB (aftG (kE c.kn) u c.ps.toNat (selC c (x : Nat) (allS c.rs.length))) 0 (nedR c (allS c.rs.length) (x : Nat) c.pl.toNat) c.ms c.ps.toNat))) (k := u) (by simp only [Bool.not_eq_true', Bool.not_eq_false']; assumption), setP_f (q := (fun u => (anyB (aftG (kE c.kn) u c.ps.toNat (selC c (x : Nat) (allS c.rs.length))) 1 (nedR c (allS c.rs.length) (x : Nat) c.pl.toNat) c.ms c.ps.toNat))) (k := u) (by assumption)]; rfl) rfl⟩
          | exact ⟨u + 1, by omega, rfl, sgE (by rw [setP_f (q := (fun u => !(anyB (aftG (kE c.kn) u c.ps.toNat (selC c (x : Nat) (allS c.rs.length))) 0 (nedR c (allS c.rs.length) (x : Nat) c.pl.toNat) c.ms c.ps.toNat))) (k := u) (by simp only [Bool.not_eq_true', Bool.not_eq_false']; assumption), setP_t (q := (fun u => (anyB (aftG (kE c.kn) u c.ps.toNat (selC c (x : Nat) (allS c.rs.length))) 1 (nedR c (allS c.rs.length) (x : Nat) c.pl.toNat) c.ms c.ps.toNat))) (k := u) (by assumption)]; rfl) rfl⟩
          | exact ⟨u + 1, by omega, rfl, sgE (by rw [setP_f (q := (fun u => !(anyB (aftG (kE c.kn) u c.ps.toNat (selC c (x : Nat) (allS c.rs.length))) 0 (nedR c (allS c.rs.length) (x : Nat) c.pl.toNat) c.ms c.ps.toNat))) (k := u) (by simp only [Bool.not_eq_true', Bool.not_eq_false']; assumption), setP_f (q := (fun u => (anyB (aftG (kE c.kn) u c.ps.toNat (selC c (x : Nat) (allS c.rs.length))) 1 (nedR c (allS c.rs.length) (x : Nat) c.pl.toNat) c.ms c.ps.toNat))) (k := u) (by assumption)]; rfl) rfl⟩
        · replace hb7 := hB.h {} hb7
          try rw [eqI] at hb7
          repeat refine gwp_seq ?_
          refine gwp_skip ?_
          refine cl [1, 2, 8, 9, 10] (k := ?_)
          repeat refine gwp_seq ?_
          refine gwp_region ?_
          refine v0 (k := ?_)
          refine v1 (hc := kWo1.h {}) (k := ?_)
          refine v0 (k := ?_)
          refine nil0 ?_
          refine lend [1, 2, 8, 9, 10] (h := ?_) (hV := ?_) (n' := c.ps.toNat - (u + 1))
          · omega
          first
          | exact ⟨u + 1, by omega, rfl, sgE (by rw [setP_t (q := (fun u => !(anyB (aftG (kE c.kn) u c.ps.toNat (selC c (x : Nat) (allS c.rs.length))) 0 (nedR c (allS c.rs.length) (x : Nat) c.pl.toNat) c.ms c.ps.toNat))) (k := u) (by simp only [Bool.not_eq_true', Bool.not_eq_false']; assumption), setP_t (q := (fun u => (anyB (aftG (kE c.kn) u c.ps.toNat (selC c (x : Nat) (allS c.rs.length))) 1 (nedR c (allS c.rs.length) (x : Nat) c.pl.toNat) c.ms c.ps.toNat))) (k := u) (by assumption)]; rfl) rfl⟩
          | exact ⟨u + 1, by omega, rfl, sgE (by rw [setP_t (q := (fun u => !(anyB (aftG (kE c.kn) u c.ps.toNat (selC c (x : Nat) (allS c.rs.length))) 0 (nedR c (allS c.rs.length) (x : Nat) c.pl.toNat) c.ms c.ps.toNat))) (k := u) (by simp only [Bool.not_eq_true', Bool.not_eq_false']; assumption), setP_f (q := (fun u => (anyB (aftG (kE c.kn) u c.ps.toNat (selC c (x : Nat) (allS c.rs.length))) 1 (nedR c (allS c.rs.length) (x : Nat) c.pl.toNat) c.ms c.ps.toNat))) (k := u) (by assumption)]; rfl) rfl⟩
          | exact ⟨u + 1, by omega, rfl, sgE (by rw [setP_f (q := (fun u => !(anyB (aftG (kE c.kn) u c.ps.toNat (selC c (x : Nat) (allS c.rs.length))) 0 (nedR c (allS c.rs.length) (x : Nat) c.pl.toNat) c.ms c.ps.toNat))) (k := u) (by simp only [Bool.not_eq_true', Bool.not_eq_false']; assumption), setP_t (q := (fun u => (anyB (aftG (kE c.kn) u c.ps.toNat (selC c (x : Nat) (allS c.rs.length))) 1 (nedR c (allS c.rs.length) (x : Nat) c.pl.toNat) c.ms c.ps.toNat))) (k := u) (by assumption)]; rfl) rfl⟩
          | exact ⟨u + 1, by omega, rfl, sgE (by rw [setP_f (q := (fun u => !(anyB (aftG (kE c.kn) u c.ps.toNat (selC c (x : Nat) (allS c.rs.length))) 0 (nedR c (allS c.rs.length) (x : Nat) c.pl.toNat) c.ms c.ps.toNat))) (k := u) (by simp only [Bool.not_eq_true', Bool.not_eq_false']; assumption), setP_f (q := (fun u => (anyB (aftG (kE c.kn) u c.ps.toNat (selC c (x : Nat) (allS c.rs.length))) 1 (nedR c (allS c.rs.length) (x : Nat) c.pl.toNat) c.ms c.ps.toNat))) (k := u) (by assumption)]; rfl) rfl⟩
      · replace hb6 := hB.h {} hb6
        try rw [eqI] at hb6
        repeat refine gwp_seq ?_
        refine gwp_skip ?_
        refine cl [1, 2, 8, 9, 10, 13] (k := ?_)
        repeat refine gwp_seq ?_
        refine gwp_region ?_
        refine v0 (k := ?_)
        refine v0 (k := ?_)
        refine nil0 ?_
        repeat refine gwp_seq ?_
        refine cB (k1 := fun hb8 => ?_) (k0 := fun hb8 => ?_)
        · replace hb8 := hB.h {} hb8
          try rw [eqI] at hb8
          repeat refine gwp_seq ?_
          refine gwp_region ?_
          refine v0 (k := ?_)
          refine v0 (k := ?_)
          refine pc0 (spec := r_power u (by omega)) (hent := ent85) (k := ?_)
          refine v1 (hc := kWo1.h {}) (k := ?_)
          refine v0 (k := ?_)
          refine nil0 ?_
          refine cl [1, 2, 8, 9, 10] (k := ?_)
          repeat refine gwp_seq ?_
          refine gwp_region ?_
          refine v0 (k := ?_)
          refine v1 (hc := kWo1.h {}) (k := ?_)
          refine v0 (k := ?_)
          refine nil0 ?_
          refine lend [1, 2, 8, 9, 10] (h := ?_) (hV := ?_) (n' := c.ps.toNat - (u + 1))
          · omega
          first
          | exact ⟨u + 1, by omega, rfl, sgE (by rw [setP_t (q := (fun u => !(anyB (aftG (kE c.kn) u c.ps.toNat (selC c (x : Nat) (allS c.rs.length))) 0 (nedR c (allS c.rs.length) (x : Nat) c.pl.toNat) c.ms c.ps.toNat))) (k := u) (by simp only [Bool.not_eq_true', Bool.not_eq_false']; assumption), setP_t (q := (fun u => (anyB (aftG (kE c.kn) u c.ps.toNat (selC c (x : Nat) (allS c.rs.length))) 1 (nedR c (allS c.rs.length) (x : Nat) c.pl.toNat) c.ms c.ps.toNat))) (k := u) (by assumption)]; rfl) rfl⟩
          | exact ⟨u + 1, by omega, rfl, sgE (by rw [setP_t (q := (fun u => !(anyB (aftG (kE c.kn) u c.ps.toNat (selC c (x : Nat) (allS c.rs.length))) 0 (nedR c (allS c.rs.length) (x : Nat) c.pl.toNat) c.ms c.ps.toNat))) (k := u) (by simp only [Bool.not_eq_true', Bool.not_eq_false']; assumption), setP_f (q := (fun u => (anyB (aftG (kE c.kn) u c.ps.toNat (selC c (x : Nat) (allS c.rs.length))) 1 (nedR c (allS c.rs.length) (x : Nat) c.pl.toNat) c.ms c.ps.toNat))) (k := u) (by assumption)]; rfl) rfl⟩
          | exact ⟨u + 1, by omega, rfl, sgE (by rw [setP_f (q := (fun u => !(anyB (aftG (kE c.kn) u c.ps.toNat (selC c (x : Nat) (allS c.rs.length))) 0 (nedR c (allS c.rs.length) (x : Nat) c.pl.toNat) c.ms c.ps.toNat))) (k := u) (by simp only [Bool.not_eq_true', Bool.not_eq_false']; assumption), setP_t (q := (fun u => (anyB (aftG (kE c.kn) u c.ps.toNat (selC c (x : Nat) (allS c.rs.length))) 1 (nedR c (allS c.rs.length) (x : Nat) c.pl.toNat) c.ms c.ps.toNat))) (k := u) (by assumption)]; rfl) rfl⟩
          | exact ⟨u + 1, by omega, rfl, sgE (by rw [setP_f (q := (fun u => !(anyB (aftG (kE c.kn) u c.ps.toNat (selC c (x : Nat) (allS c.rs.length))) 0 (nedR c (allS c.rs.length) (x : Nat) c.pl.toNat) c.ms c.ps.toNat))) (k := u) (by simp only [Bool.not_eq_true', Bool.not_eq_false']; assumption), setP_f (q := (fun u => (anyB (aftG (kE c.kn) u c.ps.toNat (selC c (x : Nat) (allS c.rs.length))) 1 (nedR c (allS c.rs.length) (x : Nat) c.pl.toNat) c.ms c.ps.toNat))) (k := u) (by assumption)]; rfl) rfl⟩
        · replace hb8 := hB.h {} hb8
          try rw [eqI] at hb8
          repeat refine gwp_seq ?_
          refine gwp_skip ?_
          refine cl [1, 2, 8, 9, 10] (k := ?_)
          repeat refine gwp_seq ?_
          refine gwp_region ?_
          refine v0 (k := ?_)
          refine v1 (hc := kWo1.h {}) (k := ?_)
          refine v0 (k := ?_)
          refine nil0 ?_
          refine lend [1, 2, 8, 9, 10] (h := ?_) (hV := ?_) (n' := c.ps.toNat - (u + 1))
          · omega
          first
          | exact ⟨u + 1, by omega, rfl, sgE (by rw [setP_t (q := (fun u => !(anyB (aftG (kE c.kn) u c.ps.toNat (selC c (x : Nat) (allS c.rs.length))) 0 (nedR c (allS c.rs.length) (x : Nat) c.pl.toNat) c.ms c.ps.toNat))) (k := u) (by simp only [Bool.not_eq_true', Bool.not_eq_false']; assumption), setP_t (q := (fun u => (anyB (aftG (kE c.kn) u c.ps.toNat (selC c (x : Nat) (allS c.rs.length))) 1 (nedR c (allS c.rs.length) (x : Nat) c.pl.toNat) c.ms c.ps.toNat))) (k := u) (by assumption)]; rfl) rfl⟩
          | exact ⟨u + 1, by omega, rfl, sgE (by rw [setP_t (q := (fun u => !(anyB (aftG (kE c.kn) u c.ps.toNat (selC c (x : Nat) (allS c.rs.length))) 0 (nedR c (allS c.rs.length) (x : Nat) c.pl.toNat) c.ms c.ps.toNat))) (k := u) (by simp only [Bool.not_eq_true', Bool.not_eq_false']; assumption), setP_f (q := (fun u => (anyB (aftG (kE c.kn) u c.ps.toNat (selC c (x : Nat) (allS c.rs.length))) 1 (nedR c (allS c.rs.length) (x : Nat) c.pl.toNat) c.ms c.ps.toNat))) (k := u) (by assumption)]; rfl) rfl⟩
          | exact ⟨u + 1, by omega, rfl, sgE (by rw [setP_f (q := (fun u => !(anyB (aftG (kE c.kn) u c.ps.toNat (selC c (x : Nat) (allS c.rs.length))) 0 (nedR c (allS c.rs.length) (x : Nat) c.pl.toNat) c.ms c.ps.toNat))) (k := u) (by simp only [Bool.not_eq_true', Bool.not_eq_false']; assumption), setP_t (q := (fun u => (anyB (aftG (kE c.kn) u c.ps.toNat (selC c (x : Nat) (allS c.rs.length))) 1 (nedR c (allS c.rs.length) (x : Nat) c.pl.toNat) c.ms c.ps.toNat))) (k := u) (by assumption)]; rfl) rfl⟩
          | exact ⟨u + 1, by omega, rfl, sgE (by rw [setP_f (q := (fun u => !(anyB (aftG (kE c.kn) u c.ps.toNat (selC c (x : Nat) (allS c.rs.length))) 0 (nedR c (allS c.rs.length) (x : Nat) c.pl.toNat) c.ms c.ps.toNat))) (k := u) (by simp only [Bool.not_eq_true', Bool.not_eq_false']; assumption), setP_f (q := (fun u => (anyB (aftG (kE c.kn) u c.ps.toNat (selC c (x : Nat) (allS c.rs.length))) 1 (nedR c (allS c.rs.length) (x : Nat) c.pl.toNat) c.ms c.ps.toNat))) (k := u) (by assumption)]; rfl) rfl⟩
  · replace hb1 := hB.h {} hb1
    try rw [eqI] at hb1
    repeat refine gwp_seq ?_
    refine gwp_exit ?_
    repeat (first | refine gthen_exit ?_ | refine gnoGoto_exit ?_ | refine gblock_here ?_ | refine gblock_out rfl ?_)
    refine cl [8, 9] (k := ?_)
    repeat refine gwp_seq ?_
    refine gwp_region ?_
    refine v0 (k := ?_)
    refine v0 (k := ?_)
    refine v0 (k := ?_)
    refine v0 (k := ?_)
    refine v0 (k := ?_)
    refine nil0 ?_
    repeat refine gwp_seq ?_
    refine gwp_ret ?_
    repeat (first | refine gthen_ret ?_ | refine gblock_ret ?_ | refine gnoGoto_ret ?_)
    refine fin_ret ?_
    refine fp3 (hR := ?_)
    obtain rfl : u = c.ps.toNat := by omega
    rfl
theorem r_Hands_t (c : Ch) (hv : c.valid = true) (x : Nat) (hq : inQ (x : Nat) c.pl = true) (hc : leastC c ≤ c.ms) : PSpec Try.prog 27 [.agg [.int .i64 c.pl, .int .i64 c.ps, .list (c.kn.map pk), .list (c.rs.map pr), .int .i64 c.ms], .int .i64 (x : Nat)] (.ok (.tuple [.int .i64 (setN (surQ c (x : Nat)) c.ps.toNat : Nat), .int .i64 (setN (canQ c (x : Nat)) c.ps.toNat : Nat), .int .i64 0])) := by
  have hx : ((x : Nat) : Int) < c.pl := by simp only [inQ, Bool.and_eq_true, decide_eq_true_eq] at hq; omega
  have h := r_HandsP c hv x hq hc
  rw [setP_N, setP_N] at h
  rw [setN_congr2 (p := (fun u => !(anyB (aftG (kE c.kn) u c.ps.toNat (selC c (x : Nat) (allS c.rs.length))) 0 (nedR c (allS c.rs.length) (x : Nat) c.pl.toNat) c.ms c.ps.toNat))) (q := surQ c (x : Nat)) c.ps.toNat (fun u hu => ?_), setN_congr2 (p := (fun u => (anyB (aftG (kE c.kn) u c.ps.toNat (selC c (x : Nat) (allS c.rs.length))) 1 (nedR c (allS c.rs.length) (x : Nat) c.pl.toNat) c.ms c.ps.toNat))) (q := canQ c (x : Nat)) c.ps.toNat (fun u hu => ?_)] at h
  · exact h
  · exact Bool.eq_iff_iff.2 ((anyB_iff _).trans (had_doc hv hc hx hu))
  · have e : ∀ a b : Bool, (a = true ↔ b = false) → (!a) = b := by decide
    exact e _ _ ((anyB_iff _).trans (not_doc hv hc hx hu))
theorem r_Hands_r (c : Ch) (hv : c.valid = true) (x : Int) (hq : inQ x c.pl = false) : PSpec Try.prog 27 [.agg [.int .i64 c.pl, .int .i64 c.ps, .list (c.kn.map pk), .list (c.rs.map pr), .int .i64 c.ms], .int .i64 x] (.ok (.tuple [.int .i64 0, .int .i64 0, .int .i64 2])) := by
  refine pspec_of Try.func27 (rfl : Try.f27.body = some _) rfl ?_
  intro E A C hN hL
  replace hN : C.N = 86 := hN
  simp only [Gh.num, List.map_cons, List.map_nil, Nat.reduceAdd]
  have hn := valid_num hv
  have hdt : ∀ (i : Decidable True), @decide True i = true := fun i => decide_eq_true trivial
  have hdf : ∀ (i : Decidable False), @decide False i = false := fun i => decide_eq_false id
  repeat refine gwp_seq ?_
  refine gwp_region ?_
  refine n1 120 false (hc := kWo2.h {}) (k := ?_)
  refine v0 (k := ?_)
  refine v0 (k := ?_)
  refine v0 (k := ?_)
  refine nil0 ?_
  refine cl [1, 2] (k := ?_)
  repeat refine gwp_seq ?_
  refine rd ?_
  refine d0 0 (k := ?_)
  refine d0 1 (k := ?_)
  refine d0 2 (k := ?_)
  refine dpc0 3 (spec := r_plateT c hv x hq) (hent := ent49) (k := ?_)
  refine dpc0 4 (spec := r_open_r c hv) (hent := ent71) (k := ?_)
  refine d0 5 (k := ?_)
  refine dz 6 [0, 0, 0, 6, 15, 31] (h := ?_)
  refine de 6 (h := ?_)
  refine cl [1, 2, 7] (k := ?_)
  repeat refine gwp_seq ?_
  refine gwp_region ?_
  refine v0 (k := ?_)
  refine v0 (k := ?_)
  refine rb 21 true (h := by (first | rfl | decide)) (k := ?_)
  refine nil0 ?_
  repeat refine gwp_seq ?_
  refine cT (k := ?_)
  repeat refine gwp_seq ?_
  refine gwp_region ?_
  refine v0 (k := ?_)
  refine v0 (k := ?_)
  refine v0 (k := ?_)
  refine v0 (k := ?_)
  refine nil0 ?_
  repeat refine gwp_seq ?_
  refine gwp_ret ?_
  repeat (first | refine gthen_ret ?_ | refine gblock_ret ?_ | refine gnoGoto_ret ?_)
  refine fin_ret ?_
  refine fp3 (hR := ?_)
  rfl
theorem r_Hands_c (c : Ch) (hv : c.valid = true) (x : Int) (hq : inQ x c.pl = true) (hc : ¬ leastC c ≤ c.ms) : PSpec Try.prog 27 [.agg [.int .i64 c.pl, .int .i64 c.ps, .list (c.kn.map pk), .list (c.rs.map pr), .int .i64 c.ms], .int .i64 x] (.ok (.tuple [.int .i64 0, .int .i64 0, .int .i64 10])) := by
  refine pspec_of Try.func27 (rfl : Try.f27.body = some _) rfl ?_
  intro E A C hN hL
  replace hN : C.N = 86 := hN
  simp only [Gh.num, List.map_cons, List.map_nil, Nat.reduceAdd]
  have hn := valid_num hv
  have hdt : ∀ (i : Decidable True), @decide True i = true := fun i => decide_eq_true trivial
  have hdf : ∀ (i : Decidable False), @decide False i = false := fun i => decide_eq_false id
  repeat refine gwp_seq ?_
  refine gwp_region ?_
  refine n1 120 false (hc := kWo2.h {}) (k := ?_)
  refine v0 (k := ?_)
  refine v0 (k := ?_)
  refine v0 (k := ?_)
  refine nil0 ?_
  refine cl [1, 2] (k := ?_)
  repeat refine gwp_seq ?_
  refine rd ?_
  refine d0 0 (k := ?_)
  refine d0 1 (k := ?_)
  refine d0 2 (k := ?_)
  refine dpc0 3 (spec := r_plateT c hv x hq) (hent := ent49) (k := ?_)
  refine dpc0 4 (spec := r_open_c c hv hc) (hent := ent71) (k := ?_)
  refine d0 5 (k := ?_)
  refine dz 6 [0, 0, 0, 6, 15, 31] (h := ?_)
  refine de 6 (h := ?_)
  refine cl [1, 2, 7] (k := ?_)
  repeat refine gwp_seq ?_
  refine gwp_region ?_
  refine v0 (k := ?_)
  refine v0 (k := ?_)
  refine rb 21 true (h := by (first | rfl | decide)) (k := ?_)
  refine nil0 ?_
  repeat refine gwp_seq ?_
  refine cT (k := ?_)
  repeat refine gwp_seq ?_
  refine gwp_region ?_
  refine v0 (k := ?_)
  refine v0 (k := ?_)
  refine v0 (k := ?_)
  refine v0 (k := ?_)
  refine nil0 ?_
  repeat refine gwp_seq ?_
  refine gwp_ret ?_
  repeat (first | refine gthen_ret ?_ | refine gblock_ret ?_ | refine gnoGoto_ret ?_)
  refine fin_ret ?_
  refine fp3 (hR := ?_)
  rfl
theorem r_Hands_f (c : Ch) (h1 : c.kn.length ≤ 1048576) (h2 : c.rs.length ≤ 1048576) (hv : c.valid = false) (x : Int) : PSpec Try.prog 27 [.agg [.int .i64 c.pl, .int .i64 c.ps, .list (c.kn.map pk), .list (c.rs.map pr), .int .i64 c.ms], .int .i64 x] (.ok (.tuple [.int .i64 0, .int .i64 0, .int .i64 1])) := by
  refine pspec_of Try.func27 (rfl : Try.f27.body = some _) rfl ?_
  intro E A C hN hL
  replace hN : C.N = 86 := hN
  simp only [Gh.num, List.map_cons, List.map_nil, Nat.reduceAdd]
  have hdt : ∀ (i : Decidable True), @decide True i = true := fun i => decide_eq_true trivial
  have hdf : ∀ (i : Decidable False), @decide False i = false := fun i => decide_eq_false id
  repeat refine gwp_seq ?_
  refine gwp_region ?_
  refine n1 120 false (hc := kWo2.h {}) (k := ?_)
  refine v0 (k := ?_)
  refine v0 (k := ?_)
  refine v0 (k := ?_)
  refine nil0 ?_
  refine cl [1, 2] (k := ?_)
  repeat refine gwp_seq ?_
  refine rd ?_
  refine d0 0 (k := ?_)
  refine d0 1 (k := ?_)
  refine d0 2 (k := ?_)
  refine dpc0 3 (spec := r_plateW c x) (hent := ent49) (k := ?_)
  refine dpc0 4 (spec := r_open_f c h1 h2 hv _) (hent := ent71) (k := ?_)
  refine d0 5 (k := ?_)
  refine dz 6 [0, 0, 0, 6, 15, 31] (h := ?_)
  refine de 6 (h := ?_)
  refine cl [1, 2, 7] (k := ?_)
  repeat refine gwp_seq ?_
  refine gwp_region ?_
  refine v0 (k := ?_)
  refine v0 (k := ?_)
  refine rb 21 true (h := by (first | rfl | decide)) (k := ?_)
  refine nil0 ?_
  repeat refine gwp_seq ?_
  refine cT (k := ?_)
  repeat refine gwp_seq ?_
  refine gwp_region ?_
  refine v0 (k := ?_)
  refine v0 (k := ?_)
  refine v0 (k := ?_)
  refine v0 (k := ?_)
  refine nil0 ?_
  repeat refine gwp_seq ?_
  refine gwp_ret ?_
  repeat (first | refine gthen_ret ?_ | refine gblock_ret ?_ | refine gnoGoto_ret ?_)
  refine fin_ret ?_
  refine fp3 (hR := ?_)
  rfl
theorem ent31 : Enters Try.prog 31 := Enters.mk Try.func31 (by kernel_rfl) rfl
theorem r_Drop_t (c : Ch) (hv : c.valid = true) : PSpec Try.prog 31 [.agg [.int .i64 c.pl, .int .i64 c.ps, .list (c.kn.map pk), .list (c.rs.map pr), .int .i64 c.ms]] (.ok (.tuple [.int .i64 (dropV c : Nat), .int .i64 0])) := by
  refine pspec_of Try.func31 (rfl : Try.f31.body = some _) rfl ?_
  intro E A C hN hL
  replace hN : C.N = 38 := hN
  simp only [Gh.num, List.map_cons, List.map_nil, Nat.reduceAdd]
  have hn := valid_num hv
  have hal := allS_lt (n := c.rs.length) (by omega)
  have hdt : ∀ (i : Decidable True), @decide True i = true := fun i => decide_eq_true trivial
  have hdf : ∀ (i : Decidable False), @decide False i = false := fun i => decide_eq_false id
  repeat refine gwp_seq ?_
  refine gwp_region ?_
  refine n1 110 false (hc := kWo2.h {}) (k := ?_)
  refine v0 (k := ?_)
  refine v0 (k := ?_)
  refine nil0 ?_
  refine cl [1] (k := ?_)
  repeat refine gwp_seq ?_
  refine gwp_region ?_
  refine v0 (k := ?_)
  refine pc0 (spec := r_check_t c hv) (hent := ent48) (k := ?_)
  refine v0 (k := ?_)
  refine nil0 ?_
  refine cl [1, 4] (k := ?_)
  repeat refine gwp_seq ?_
  refine gwp_region ?_
  refine v0 (k := ?_)
  refine v0 (k := ?_)
  refine rb 10 false (h := by (first | rfl | decide)) (k := ?_)
  refine nil0 ?_
  repeat refine gwp_seq ?_
  refine cF (k := ?_)
  repeat refine gwp_seq ?_
  refine gwp_skip ?_
  refine cl [1] (k := ?_)
  repeat refine gwp_seq ?_
  refine gwp_region ?_
  refine v0 (k := ?_)
  refine pc0 (spec := r_every c hv) (hent := ent66) (k := ?_)
  refine v0 (k := ?_)
  refine nil0 ?_
  refine cl [1, 5] (k := ?_)
  repeat refine gwp_seq ?_
  refine gwp_region ?_
  refine v0 (k := ?_)
  refine nil0 ?_
  refine cl [1, 5, 6] (k := ?_)
  repeat refine gwp_seq ?_
  refine gwp_block ?_
  repeat refine gwp_seq ?_
  refine gc_loop (fun mz σ => ∃ k : Nat, (k ≤ (allS c.rs.length) + 1) ∧ mz = (allS c.rs.length) + 1 - k ∧ σ = (sg [(1, .ref 110 0), (5, .p (.int .i64 (bestR c k : Nat))), (6, .p (.int .i64 (k : Nat)))] [(110, .cells [.p (.int .i64 c.pl), .p (.int .i64 c.ps), .p (.list (c.kn.map pk)), .p (.list (c.rs.map pr)), .p (.int .i64 c.ms)] 0)] A [] : Sg E)) ?_ (fun mz σ hI => ?_)
  · refine lbeg [1, 5, 6] (hV := ?_)
    exact ⟨_, 0, by omega, rfl, rfl⟩
  obtain ⟨k, hk, hnn, rfl⟩ := hI
  have hbl := bestR_le c k hk
  repeat refine gwp_seq ?_
  refine gwp_region ?_
  refine v0 (k := ?_)
  refine v0 (k := ?_)
  refine pc0 (spec := r_every c hv) (hent := ent66) (k := ?_)
  refine v0 (k := ?_)
  refine nil0 ?_
  repeat refine gwp_seq ?_
  refine cB (k1 := fun hb1 => ?_) (k0 := fun hb1 => ?_)
  · replace hb1 := hB.h {} hb1
    try rw [eqI] at hb1
    repeat refine gwp_seq ?_
    refine gwp_skip ?_
    refine cl [1, 5, 6] (k := ?_)
    repeat refine gwp_seq ?_
    refine gwp_block ?_
    repeat refine gwp_seq ?_
    have hsub : (((allS c.rs.length) : Nat) : Int) - ((k : Nat) : Int) = (((allS c.rs.length) - k : Nat) : Int) := by omega
    refine rd ?_
    refine d0 0 (k := ?_)
    refine dpc0 1 (spec := r_size k (by omega)) (hent := ent38) (k := ?_)
    refine d0 2 (k := ?_)
    refine dpc0 3 (spec := r_size (bestR c k) (by omega)) (hent := ent38) (k := ?_)
    refine d0 4 (k := ?_)
    refine d0 5 (k := ?_)
    refine db0 6 25 (k1 := fun hb2 => ?_) (k0 := fun hb2 => ?_)
    · replace hb2 := hB.h {} hb2
      try rw [eqI] at hb2
      refine dw0 6 (k := ?_)
      refine dw0 7 (k := ?_)
      refine dpcw 8 (spec := r_every c hv) (hent := ent66) (k := ?_)
      refine dw0 9 (k := ?_)
      refine dw1 10 (hc := kWo2.h {}) (k := ?_)
      refine dpcw 11 (spec := r_Needs c hv ((allS c.rs.length) - k) (by omega) (-1)) (hent := ent65) (k := ?_)
      refine dw0 12 (k := ?_)
      refine dw0 13 (k := ?_)
      refine dw0 14 (k := ?_)
      refine d0 15 (k := ?_)
      refine dz 16 [0, 1, 0, 7, 15, 31, 63, 63, 191, 63, 959, 2047, 63, 4159, 16383, 32767] (h := ?_)
      refine de 16 (h := ?_)
      repeat refine gwp_seq ?_
      refine cB (k1 := fun hb3 => ?_) (k0 := fun hb3 => ?_)
      · replace hb3 := hB.h {} hb3
        try rw [eqI] at hb3
        repeat refine gwp_seq ?_
        refine gwp_region ?_
        refine v0 (k := ?_)
        refine v0 (k := ?_)
        refine nil0 ?_
        refine cl [1, 5, 6] (k := ?_)
        repeat refine gwp_seq ?_
        refine gwp_region ?_
        refine v0 (k := ?_)
        refine v1 (hc := kWo2.h {}) (k := ?_)
        refine v0 (k := ?_)
        refine nil0 ?_
        refine lend [1, 5, 6] (h := ?_) (hV := ?_) (n' := (allS c.rs.length) + 1 - (k + 1))
        · omega
        first
        | exact ⟨k + 1, by omega, rfl, sgE (by rw [bestR, if_pos ⟨by omega, by omega⟩]; rfl) rfl⟩
        | exact ⟨k + 1, by omega, rfl, sgE (by rw [bestR, if_neg (fun h => by omega)]; rfl) rfl⟩
      · replace hb3 := hB.h {} hb3
        try rw [eqI] at hb3
        repeat refine gwp_seq ?_
        refine gwp_skip ?_
        refine cl [1, 5, 6] (k := ?_)
        repeat refine gwp_seq ?_
        refine gwp_region ?_
        refine v0 (k := ?_)
        refine v1 (hc := kWo2.h {}) (k := ?_)
        refine v0 (k := ?_)
        refine nil0 ?_
        refine lend [1, 5, 6] (h := ?_) (hV := ?_) (n' := (allS c.rs.length) + 1 - (k + 1))
        · omega
        first
        | exact ⟨k + 1, by omega, rfl, sgE (by rw [bestR, if_pos ⟨by omega, by omega⟩]; rfl) rfl⟩
        | exact ⟨k + 1, by omega, rfl, sgE (by rw [bestR, if_neg (fun h => by omega)]; rfl) rfl⟩
    · replace hb2 := hB.h {} hb2
      try rw [eqI] at hb2
      refine dx0 6 (k := ?_)
      refine dx0 7 (k := ?_)
      refine dx0 8 (k := ?_)
      refine dx0 9 (k := ?_)
      refine dx0 10 (k := ?_)
      refine dx0 11 (k := ?_)
      refine dx0 12 (k := ?_)
      refine dx0 13 (k := ?_)
      refine dx0 14 (k := ?_)
      refine d0 15 (k := ?_)
      refine dz 16 [0, 1, 0, 7, 15, 31, 63, 63, 191, 63, 959, 2047, 63, 4159, 16383, 32767] (h := ?_)
      refine de 16 (h := ?_)
      repeat refine gwp_seq ?_
      refine cF (k := ?_)
      repeat refine gwp_seq ?_
      refine gwp_skip ?_
      refine cl [1, 5, 6] (k := ?_)
      repeat refine gwp_seq ?_
      refine gwp_region ?_
      refine v0 (k := ?_)
      refine v1 (hc := kWo2.h {}) (k := ?_)
      refine v0 (k := ?_)
      refine nil0 ?_
      refine lend [1, 5, 6] (h := ?_) (hV := ?_) (n' := (allS c.rs.length) + 1 - (k + 1))
      · omega
      first
      | exact ⟨k + 1, by omega, rfl, sgE (by rw [bestR, if_pos ⟨by omega, by omega⟩]; rfl) rfl⟩
      | exact ⟨k + 1, by omega, rfl, sgE (by rw [bestR, if_neg (fun h => by omega)]; rfl) rfl⟩
  · replace hb1 := hB.h {} hb1
    try rw [eqI] at hb1
    repeat refine gwp_seq ?_
    refine gwp_exit ?_
    repeat (first | refine gthen_exit ?_ | refine gnoGoto_exit ?_ | refine gblock_here ?_ | refine gblock_out rfl ?_)
    refine cl [5] (k := ?_)
    repeat refine gwp_seq ?_
    refine gwp_region ?_
    refine v0 (k := ?_)
    refine v0 (k := ?_)
    refine v0 (k := ?_)
    refine nil0 ?_
    repeat refine gwp_seq ?_
    refine gwp_ret ?_
    repeat (first | refine gthen_ret ?_ | refine gblock_ret ?_ | refine gnoGoto_ret ?_)
    refine fin_ret ?_
    refine fp2 (hR := ?_)
    obtain rfl : k = (allS c.rs.length) + 1 := by omega
    rw [drop_doc hv]
    rfl
theorem r_Drop_f (c : Ch) (h1 : c.kn.length ≤ 1048576) (h2 : c.rs.length ≤ 1048576) (hv : c.valid = false) : PSpec Try.prog 31 [.agg [.int .i64 c.pl, .int .i64 c.ps, .list (c.kn.map pk), .list (c.rs.map pr), .int .i64 c.ms]] (.ok (.tuple [.int .i64 0, .int .i64 1])) := by
  refine pspec_of Try.func31 (rfl : Try.f31.body = some _) rfl ?_
  intro E A C hN hL
  replace hN : C.N = 38 := hN
  simp only [Gh.num, List.map_cons, List.map_nil, Nat.reduceAdd]
  have hdt : ∀ (i : Decidable True), @decide True i = true := fun i => decide_eq_true trivial
  have hdf : ∀ (i : Decidable False), @decide False i = false := fun i => decide_eq_false id
  repeat refine gwp_seq ?_
  refine gwp_region ?_
  refine n1 110 false (hc := kWo2.h {}) (k := ?_)
  refine v0 (k := ?_)
  refine v0 (k := ?_)
  refine nil0 ?_
  refine cl [1] (k := ?_)
  repeat refine gwp_seq ?_
  refine gwp_region ?_
  refine v0 (k := ?_)
  refine pc0 (spec := r_check_f c h1 h2 hv true) (hent := ent48) (k := ?_)
  refine v0 (k := ?_)
  refine nil0 ?_
  refine cl [1, 4] (k := ?_)
  repeat refine gwp_seq ?_
  refine gwp_region ?_
  refine v0 (k := ?_)
  refine v0 (k := ?_)
  refine rb 10 true (h := by (first | rfl | decide)) (k := ?_)
  refine nil0 ?_
  repeat refine gwp_seq ?_
  refine cT (k := ?_)
  repeat refine gwp_seq ?_
  refine gwp_region ?_
  refine v0 (k := ?_)
  refine v0 (k := ?_)
  refine v0 (k := ?_)
  refine nil0 ?_
  repeat refine gwp_seq ?_
  refine gwp_ret ?_
  repeat (first | refine gthen_ret ?_ | refine gblock_ret ?_ | refine gnoGoto_ret ?_)
  refine fin_ret ?_
  refine fp2 (hR := ?_)
  rfl
theorem r_Where (c : Ch) (h1 : c.kn.length ≤ 1048576) (h2 : c.rs.length ≤ 1048576) (x : Int) : PSpec Try.prog 25 [.agg [.int .i64 c.pl, .int .i64 c.ps, .list (c.kn.map pk), .list (c.rs.map pr), .int .i64 c.ms], .int .i64 x] (.ok (.tuple [.int .i64 ((whrA c x).1 : Nat), .int .i64 (whrA c x).2])) := by
  by_cases hv : c.valid = true
  · by_cases hq : inQ x c.pl = true
    · by_cases hc : leastC c ≤ c.ms
      · rw [whrA, if_pos hv, if_pos hq, if_pos hc]
        have hn := valid_num hv
        obtain ⟨n, rfl⟩ : ∃ n : Nat, x = n := ⟨x.toNat, by simp only [inQ, Bool.and_eq_true, decide_eq_true_eq] at hq; omega⟩
        exact r_Where_t c hv n hq hc
      · rw [whrA, if_pos hv, if_pos hq, if_neg hc]
        exact r_Where_c c hv x hq hc
    · rw [whrA, if_pos hv, if_neg hq]
      exact r_Where_r c hv x (by simpa using hq)
  · rw [whrA, if_neg hv]
    exact r_Where_f c h1 h2 (by simpa using hv) x
theorem r_Hands (c : Ch) (h1 : c.kn.length ≤ 1048576) (h2 : c.rs.length ≤ 1048576) (x : Int) : PSpec Try.prog 27 [.agg [.int .i64 c.pl, .int .i64 c.ps, .list (c.kn.map pk), .list (c.rs.map pr), .int .i64 c.ms], .int .i64 x] (.ok (.tuple [.int .i64 ((hanA c x).1.1 : Nat), .int .i64 ((hanA c x).1.2 : Nat), .int .i64 (hanA c x).2])) := by
  by_cases hv : c.valid = true
  · by_cases hq : inQ x c.pl = true
    · by_cases hc : leastC c ≤ c.ms
      · rw [hanA, if_pos hv, if_pos hq, if_pos hc]
        have hn := valid_num hv
        obtain ⟨n, rfl⟩ : ∃ n : Nat, x = n := ⟨x.toNat, by simp only [inQ, Bool.and_eq_true, decide_eq_true_eq] at hq; omega⟩
        exact r_Hands_t c hv n hq hc
      · rw [hanA, if_pos hv, if_pos hq, if_neg hc]
        exact r_Hands_c c hv x hq hc
    · rw [hanA, if_pos hv, if_neg hq]
      exact r_Hands_r c hv x (by simpa using hq)
  · rw [hanA, if_neg hv]
    exact r_Hands_f c h1 h2 (by simpa using hv) x
theorem r_Holds (c : Ch) (h1 : c.kn.length ≤ 1048576) (h2 : c.rs.length ≤ 1048576) (x : Int) : PSpec Try.prog 29 [.agg [.int .i64 c.pl, .int .i64 c.ps, .list (c.kn.map pk), .list (c.rs.map pr), .int .i64 c.ms], .int .i64 x] (.ok (.tuple [.int .i64 ((hldA c x).1.1 : Nat), .int .i64 ((hldA c x).1.2 : Nat), .int .i64 (hldA c x).2])) := by
  by_cases hv : c.valid = true
  · by_cases hq : inQ x c.ps = true
    · by_cases hc : leastC c ≤ c.ms
      · rw [hldA, if_pos hv, if_pos hq, if_pos hc]
        have hn := valid_num hv
        obtain ⟨n, rfl⟩ : ∃ n : Nat, x = n := ⟨x.toNat, by simp only [inQ, Bool.and_eq_true, decide_eq_true_eq] at hq; omega⟩
        have hn8 : n < 8 := by simp only [inQ, Bool.and_eq_true, decide_eq_true_eq] at hq; omega
        exact r_Holds_t c hv n hn8 hq hc
      · rw [hldA, if_pos hv, if_pos hq, if_neg hc]
        exact r_Holds_c c hv x hq hc
    · rw [hldA, if_pos hv, if_neg hq]
      exact r_Holds_r c hv x (by simpa using hq)
  · rw [hldA, if_neg hv]
    exact r_Holds_f c h1 h2 (by simpa using hv) x
theorem r_Drop (c : Ch) (h1 : c.kn.length ≤ 1048576) (h2 : c.rs.length ≤ 1048576) : PSpec Try.prog 31 [.agg [.int .i64 c.pl, .int .i64 c.ps, .list (c.kn.map pk), .list (c.rs.map pr), .int .i64 c.ms]] (.ok (.tuple [.int .i64 ((drpA c).1 : Nat), .int .i64 (drpA c).2])) := by
  by_cases hv : c.valid = true
  · rw [drpA, if_pos hv]
    exact r_Drop_t c hv
  · rw [drpA, if_neg hv]
    exact r_Drop_f c h1 h2 (by simpa using hv)
end Go.Proofs.Ytagdholenfkeaaa

/- What the statements leave out. -/
namespace Go.Proofs.Ytagdholenfkeaaa
open Go.Gh
set_option maxRecDepth 100000
set_option maxHeartbeats 4000000
structure kWm1 (c : Prop) : Prop where
  h : c := by (first | exact True.intro | (simp only [inI]; omega) | (simp [P.size, pr, pk, all_int, allOne_p, goods_p, allOne, goods, good, G.one, P.one, P.cells] <;> first | omega | assumption | simp_all))
/-- Is there far too much of something? -/
def greatB (c : Ch) (n : Int) : Bool := decide (60 < c.kn.length ∨ 60 < c.rs.length) || (decide (n < (c.rs.length : Int)) && c.valid)
theorem great_len {c : Ch} {n : Int} (h : greatB c n = false) : c.kn.length ≤ 60 ∧ c.rs.length ≤ 60 := by
  simp only [greatB, Bool.or_eq_false_iff, decide_eq_false_iff_not] at h
  omega
theorem ent13 : Enters Try.prog 13 := Enters.mk Try.func13 (by kernel_rfl) rfl
theorem l_great_t (c : Ch) (n : Int) (h : 60 < c.kn.length ∨ 60 < c.rs.length) : PSpec Try.prog 13 [.agg [.int .i64 c.pl, .int .i64 c.ps, .list (c.kn.map pk), .list (c.rs.map pr), .int .i64 c.ms], .int .i64 n] (.ok (.bool true)) := by
  refine pspec_of Try.func13 (rfl : Try.f13.body = some _) rfl ?_
  intro E A C hN hL
  replace hN : C.N = 24 := hN
  simp only [Gh.num, List.map_cons, List.map_nil, Nat.reduceAdd]
  repeat refine gwp_seq ?_
  refine gwp_region ?_
  refine n1 120 false (hc := kWm1.h {}) (k := ?_)
  refine v0 (k := ?_)
  refine nil0 ?_
  refine cl [1, 2] (k := ?_)
  repeat refine gwp_seq ?_
  refine gwp_region ?_
  refine v0 (k := ?_)
  refine v0 (k := ?_)
  refine v0 (k := ?_)
  refine v0 (k := ?_)
  refine v0 (k := ?_)
  refine v0 (k := ?_)
  refine v0 (k := ?_)
  refine v0 (k := ?_)
  refine rb 12 true (h := by (exact decide_eq_true (by omega))) (k := ?_)
  refine v0 (k := ?_)
  refine x0 (k := ?_)
  refine x0 (k := ?_)
  refine x0 (k := ?_)
  refine x0 (k := ?_)
  refine x0 (k := ?_)
  refine x0 (k := ?_)
  refine x1 (k := ?_)
  refine x1 (k := ?_)
  refine x0 (k := ?_)
  refine v0 (k := ?_)
  refine v0 (k := ?_)
  refine nil0 ?_
  repeat refine gwp_seq ?_
  refine gwp_ret ?_
  repeat (first | refine gthen_ret ?_ | refine gblock_ret ?_ | refine gnoGoto_ret ?_)
  refine fin_ret ?_
  refine fp (hR := ?_)
  rfl
theorem l_great_f (c : Ch) (n : Int) (h1 : c.kn.length ≤ 60) (h2 : c.rs.length ≤ 60) : PSpec Try.prog 13 [.agg [.int .i64 c.pl, .int .i64 c.ps, .list (c.kn.map pk), .list (c.rs.map pr), .int .i64 c.ms], .int .i64 n] (.ok (.bool (decide (n < (c.rs.length : Int)) && c.valid))) := by
  refine pspec_of Try.func13 (rfl : Try.f13.body = some _) rfl ?_
  intro E A C hN hL
  replace hN : C.N = 24 := hN
  simp only [Gh.num, List.map_cons, List.map_nil, Nat.reduceAdd]
  repeat refine gwp_seq ?_
  refine gwp_region ?_
  refine n1 120 false (hc := kWm1.h {}) (k := ?_)
  refine v0 (k := ?_)
  refine nil0 ?_
  refine cl [1, 2] (k := ?_)
  repeat refine gwp_seq ?_
  refine gwp_region ?_
  refine v0 (k := ?_)
  refine v0 (k := ?_)
  refine v0 (k := ?_)
  refine v0 (k := ?_)
  refine v0 (k := ?_)
  refine v0 (k := ?_)
  refine v0 (k := ?_)
  refine v0 (k := ?_)
  refine rb 12 false (h := by (exact decide_eq_false (by omega))) (k := ?_)
  refine v0 (k := ?_)
  refine w0 (k := ?_)
  refine w0 (k := ?_)
  refine w0 (k := ?_)
  refine w0 (k := ?_)
  refine w0 (k := ?_)
  refine w0 (k := ?_)
  refine b0 (k1 := fun hb1 => ?_) (k0 := fun hb1 => ?_)
  · replace hb1 := hB.h {} hb1
    refine w0 (k := ?_)
    refine pcw (spec := r_chain c (by omega) (by omega)) (hent := ent35) (k := ?_)
    refine w0 (k := ?_)
    refine v0 (k := ?_)
    refine v0 (k := ?_)
    refine nil0 ?_
    repeat refine gwp_seq ?_
    refine gwp_ret ?_
    repeat (first | refine gthen_ret ?_ | refine gblock_ret ?_ | refine gnoGoto_ret ?_)
    refine fin_ret ?_
    refine fp (hR := ?_)
    first
    | rfl
    | (rw [decide_eq_false (show ¬ n < (c.rs.length : Int) by omega)]; rfl)
    | (rw [decide_eq_true (show n < (c.rs.length : Int) by omega)]; rfl)
  · replace hb1 := hB.h {} hb1
    refine x0 (k := ?_)
    refine x0 (k := ?_)
    refine w0 (k := ?_)
    refine v0 (k := ?_)
    refine v0 (k := ?_)
    refine nil0 ?_
    repeat refine gwp_seq ?_
    refine gwp_ret ?_
    repeat (first | refine gthen_ret ?_ | refine gblock_ret ?_ | refine gnoGoto_ret ?_)
    refine fin_ret ?_
    refine fp (hR := ?_)
    first
    | rfl
    | (rw [decide_eq_false (show ¬ n < (c.rs.length : Int) by omega)]; rfl)
    | (rw [decide_eq_true (show n < (c.rs.length : Int) by omega)]; rfl)
theorem l_great (c : Ch) (n : Int) : PSpec Try.prog 13 [.agg [.int .i64 c.pl, .int .i64 c.ps, .list (c.kn.map pk), .list (c.rs.map pr), .int .i64 c.ms], .int .i64 n] (.ok (.bool (greatB c n))) := by
  by_cases h : 60 < c.kn.length ∨ 60 < c.rs.length
  · rw [greatB, decide_eq_true h]; exact l_great_t c n h
  · rw [greatB, decide_eq_false h]; exact l_great_f c n (by omega) (by omega)
end Go.Proofs.Ytagdholenfkeaaa

/- The statement ChainWho: what the program says is what the document says. -/
namespace Go.Proofs.Ytagdholenfkeaaa
open Go.Gh
set_option maxRecDepth 100000
set_option maxHeartbeats 4000000
theorem ent4 : Enters Try.prog 4 := Enters.mk Try.func4 (by kernel_rfl) rfl
theorem l_who (c : Ch) (x w : Int) : PSpec Try.prog 4 [.agg [.int .i64 c.pl, .int .i64 c.ps, .list (c.kn.map pk), .list (c.rs.map pr), .int .i64 c.ms], .int .i64 x, .int .i64 w] (.ok (.bool true)) := by
  refine pspec_of Try.func4 (rfl : Try.f4.body = some _) rfl ?_
  intro E A C hN hL
  replace hN : C.N = 131 := hN
  simp only [Gh.num, List.map_cons, List.map_nil, Nat.reduceAdd]
  have hdt : ∀ (i : Decidable True), @decide True i = true := fun i => decide_eq_true trivial
  have hdf : ∀ (i : Decidable False), @decide False i = false := fun i => decide_eq_false id
  repeat refine gwp_seq ?_
  refine gwp_region ?_
  refine n1 130 false (hc := by (first | exact True.intro | (simp only [inI]; omega) | (simp [P.size, pr, pk, all_int, allOne_p, goods_p, allOne, goods, good, G.one, P.one, P.cells] <;> first | omega | assumption | simp_all))) (k := ?_)
  refine v0 (k := ?_)
  refine nil0 ?_
  refine cl [1, 2, 3] (k := ?_)
  repeat refine gwp_seq ?_
  refine gwp_region ?_
  refine v0 (k := ?_)
  refine pc0 (spec := l_great c 6) (hent := ent13) (k := ?_)
  refine nil0 ?_
  repeat refine gwp_seq ?_
  refine cB (k1 := fun hb1 => ?_) (k0 := fun hb1 => ?_)
  · replace hb1 := hB.h {} hb1
    repeat refine gwp_seq ?_
    refine gwp_region ?_
    refine pc0 (spec := l_alive) (hent := ent14) (k := ?_)
    refine v0 (k := ?_)
    refine nil0 ?_
    repeat refine gwp_seq ?_
    refine gwp_ret ?_
    repeat (first | refine gthen_ret ?_ | refine gblock_ret ?_ | refine gnoGoto_ret ?_)
    refine fin_ret ?_
    refine fp (hR := ?_)
    rfl
  · replace hb1 := hB.h {} hb1
    repeat refine gwp_seq ?_
    refine gwp_skip ?_
    refine cl [1, 2, 3] (k := ?_)
    repeat refine gwp_seq ?_
    obtain ⟨hk6, hr6⟩ := great_len (c := c) (n := 6) (by assumption)
    clear hb1
    refine gwp_region ?_
    refine v0 (k := ?_)
    refine v0 (k := ?_)
    refine pc0 (spec := c_where c (by omega) (by omega) x) (hent := ent24) (k := ?_)
    refine v0 (k := ?_)
    refine v0 (k := ?_)
    refine v0 (k := ?_)
    refine v0 (k := ?_)
    refine v0 (k := ?_)
    refine nil0 ?_
    refine cl [1, 2, 3, 7, 8] (k := ?_)
    repeat refine gwp_seq ?_
    refine gwp_region ?_
    refine v0 (k := ?_)
    refine v0 (k := ?_)
    refine pc0 (spec := r_Where c (by omega) (by omega) x) (hent := ent25) (k := ?_)
    refine v0 (k := ?_)
    refine v0 (k := ?_)
    refine v0 (k := ?_)
    refine v0 (k := ?_)
    refine v0 (k := ?_)
    refine nil0 ?_
    refine cl [1, 2, 3, 7, 8, 9, 10] (k := ?_)
    repeat refine gwp_seq ?_
    refine gwp_region ?_
    refine v0 (k := ?_)
    refine v0 (k := ?_)
    refine pc0 (spec := c_hands c (by omega) (by omega) x) (hent := ent26) (k := ?_)
    refine v0 (k := ?_)
    refine v0 (k := ?_)
    refine v0 (k := ?_)
    refine v0 (k := ?_)
    refine v0 (k := ?_)
    refine v0 (k := ?_)
    refine v0 (k := ?_)
    refine nil0 ?_
    refine cl [1, 2, 3, 7, 8, 9, 10, 11, 12, 13] (k := ?_)
    repeat refine gwp_seq ?_
    refine gwp_region ?_
    refine v0 (k := ?_)
    refine v0 (k := ?_)
    refine pc0 (spec := r_Hands c (by omega) (by omega) x) (hent := ent27) (k := ?_)
    refine v0 (k := ?_)
    refine v0 (k := ?_)
    refine v0 (k := ?_)
    refine v0 (k := ?_)
    refine v0 (k := ?_)
    refine v0 (k := ?_)
    refine v0 (k := ?_)
    refine nil0 ?_
    refine cl [2, 3, 7, 8, 9, 10, 11, 12, 13, 14, 15, 16] (k := ?_)
    repeat refine gwp_seq ?_
    refine gwp_region ?_
    refine v0 (k := ?_)
    refine v0 (k := ?_)
    refine pc0 (spec := c_holds c (by omega) (by omega) w) (hent := ent28) (k := ?_)
    refine v0 (k := ?_)
    refine v0 (k := ?_)
    refine v0 (k := ?_)
    refine v0 (k := ?_)
    refine v0 (k := ?_)
    refine v0 (k := ?_)
    refine v0 (k := ?_)
    refine nil0 ?_
    refine cl [2, 3, 7, 8, 9, 10, 11, 12, 13, 14, 15, 16, 17, 18, 19] (k := ?_)
    repeat refine gwp_seq ?_
    refine gwp_region ?_
    refine v0 (k := ?_)
    refine v0 (k := ?_)
    refine pc0 (spec := r_Holds c (by omega) (by omega) w) (hent := ent29) (k := ?_)
    refine v0 (k := ?_)
    refine v0 (k := ?_)
    refine v0 (k := ?_)
    refine v0 (k := ?_)
    refine v0 (k := ?_)
    refine v0 (k := ?_)
    refine v0 (k := ?_)
    refine nil0 ?_
    refine cl [3, 7, 8, 9, 10, 11, 12, 13, 14, 15, 16, 17, 18, 19, 20, 21, 22] (k := ?_)
    repeat refine gwp_seq ?_
    refine gwp_region ?_
    refine v0 (k := ?_)
    refine pc0 (spec := c_drop c (by omega) (by omega)) (hent := ent30) (k := ?_)
    refine v0 (k := ?_)
    refine v0 (k := ?_)
    refine v0 (k := ?_)
    refine v0 (k := ?_)
    refine v0 (k := ?_)
    refine nil0 ?_
    refine cl [3, 7, 8, 9, 10, 11, 12, 13, 14, 15, 16, 17, 18, 19, 20, 21, 22, 23, 24] (k := ?_)
    repeat refine gwp_seq ?_
    refine gwp_region ?_
    refine v0 (k := ?_)
    refine pc0 (spec := r_Drop c (by omega) (by omega)) (hent := ent31) (k := ?_)
    refine v0 (k := ?_)
    refine v0 (k := ?_)
    refine v0 (k := ?_)
    refine v0 (k := ?_)
    refine v0 (k := ?_)
    refine nil0 ?_
    refine cl [7, 8, 9, 10, 11, 12, 13, 14, 15, 16, 17, 18, 19, 20, 21, 22, 23, 24, 25, 26] (k := ?_)
    repeat refine gwp_seq ?_
    refine gwp_region ?_
    refine v0 (k := ?_)
    refine v0 (k := ?_)
    refine v0 (k := ?_)
    refine rb 82 true (h := by (first | rfl | decide)) (k := ?_)
    refine v0 (k := ?_)
    refine w0 (k := ?_)
    refine w0 (k := ?_)
    refine w0 (k := ?_)
    refine rb 86 true (h := by (first | rfl | decide)) (k := ?_)
    refine v0 (k := ?_)
    refine v0 (k := ?_)
    refine w0 (k := ?_)
    refine w0 (k := ?_)
    refine w0 (k := ?_)
    refine rb 91 true (h := by (first | rfl | decide)) (k := ?_)
    refine v0 (k := ?_)
    refine v0 (k := ?_)
    refine w0 (k := ?_)
    refine w0 (k := ?_)
    refine w0 (k := ?_)
    refine rb 96 true (h := by (first | rfl | decide)) (k := ?_)
    refine v0 (k := ?_)
    refine v0 (k := ?_)
    refine w0 (k := ?_)
    refine w0 (k := ?_)
    refine w0 (k := ?_)
    refine rb 101 true (h := by (first | rfl | decide)) (k := ?_)
    refine v0 (k := ?_)
    refine v0 (k := ?_)
    refine w0 (k := ?_)
    refine w0 (k := ?_)
    refine w0 (k := ?_)
    refine rb 106 true (h := by (first | rfl | decide)) (k := ?_)
    refine v0 (k := ?_)
    refine v0 (k := ?_)
    refine w0 (k := ?_)
    refine w0 (k := ?_)
    refine w0 (k := ?_)
    refine rb 111 true (h := by (first | rfl | decide)) (k := ?_)
    refine v0 (k := ?_)
    refine v0 (k := ?_)
    refine w0 (k := ?_)
    refine w0 (k := ?_)
    refine w0 (k := ?_)
    refine rb 116 true (h := by (first | rfl | decide)) (k := ?_)
    refine v0 (k := ?_)
    refine v0 (k := ?_)
    refine w0 (k := ?_)
    refine w0 (k := ?_)
    refine w0 (k := ?_)
    refine rb 121 true (h := by (first | rfl | decide)) (k := ?_)
    refine v0 (k := ?_)
    refine v0 (k := ?_)
    refine w0 (k := ?_)
    refine w0 (k := ?_)
    refine w0 (k := ?_)
    refine rb 126 true (h := by (first | rfl | decide)) (k := ?_)
    refine v0 (k := ?_)
    refine v0 (k := ?_)
    refine pcw (spec := l_alive) (hent := ent14) (k := ?_)
    refine v0 (k := ?_)
    refine v0 (k := ?_)
    refine nil0 ?_
    repeat refine gwp_seq ?_
    refine gwp_ret ?_
    repeat (first | refine gthen_ret ?_ | refine gblock_ret ?_ | refine gnoGoto_ret ?_)
    refine fin_ret ?_
    refine fp (hR := ?_)
    rfl
end Go.Proofs.Ytagdholenfkeaaa
