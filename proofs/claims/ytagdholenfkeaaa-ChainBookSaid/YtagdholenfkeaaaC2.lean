/- The statement ChainBook: the call returns true for every input, and its arguments read as before; no condition. -/
import Derived.Test.YtagdholenfkeaaaC1
set_option linter.unusedVariables false
set_option linter.unusedSimpArgs false
/- The first break, looked for record by record; the first way, by length. -/
namespace Go.Proofs.Ytagdholenfkeaaa
open Go.Gh
/-- Is the chain of a plate broken at a record? -/
def brkB (c : Ch) (x : Int) (i : Nat) : Bool := match c.rs[i]? with | some r => decide (r.p = x) && !decide (r.f = holN x c.rs i) | none => false
theorem find_none {c : Ch} {x : Int} : ∀ m, (∀ i, i < m → brkB c x i = false) → (selN x (allS c.rs.length) c.rs m).find? (fun e => !decide (holN x c.rs e.1 = e.2.f)) = none := fun m h => by
  rw [List.find?_eq_none]
  intro e he
  obtain ⟨h1, h2, h3, _⟩ := sel_mem m e he
  have := h e.1 h1
  simp only [brkB, h2, h3, decide_true, Bool.true_and, Bool.not_eq_false', decide_eq_true_eq] at this
  simp [this]
theorem find_some {c : Ch} {x : Int} {k : Nat} {r : Rc} (h : ∀ i, i < k → brkB c x i = false) (hr : c.rs[k]? = some r) (hp : r.p = x) (hn : ¬ r.f = holN x c.rs k) : (selN x (allS c.rs.length) c.rs c.rs.length).find? (fun e => !decide (holN x c.rs e.1 = e.2.f)) = some (k, r) := by
  have hk := (List.getElem?_eq_some_iff.1 hr).1
  obtain ⟨t, e, _⟩ := sel_pre (p := x) (set := allS c.rs.length) (rs := c.rs) (k + 1) c.rs.length (by omega)
  rw [e, sel_next hr hp (all_bit hk), List.append_assoc, List.find?_append, find_none k h, Option.none_or, List.cons_append, List.find?_cons_of_pos]
  simp only [Bool.not_eq_true', decide_eq_false_iff_not]
  exact fun e => hn e.symm
theorem brkV_first {c : Ch} {x : Int} {k : Nat} {r : Rc} (h : ∀ i, i < k → brkB c x i = false) (hr : c.rs[k]? = some r) (hp : r.p = x) (hn : ¬ r.f = holN x c.rs k) : brkV c x = ((k : Int), 0) := brkV_some (by rw [brk, find_some h hr hp hn]; rfl)
theorem brkV_no {c : Ch} {x : Int} (h : ∀ i, i < c.rs.length → brkB c x i = false) : brkV c x = (0, 4) := brkV_none (by rw [brk, find_none _ h]; rfl)
theorem brkB_step {c : Ch} {x : Int} {k : Nat} (h : ∀ i, i < k → brkB c x i = false) (hk : brkB c x k = false) : ∀ i, i < k + 1 → brkB c x i = false := fun i hi => by
  by_cases e : i = k
  · subst e; exact hk
  · exact h i (by omega)
theorem brkB_f1 {c : Ch} {x : Int} {k : Nat} {r : Rc} (hr : c.rs[k]? = some r) (h : ¬ r.p = x) : brkB c x k = false := by simp [brkB, hr, h]
theorem brkB_f2 {c : Ch} {x : Int} {k : Nat} {r : Rc} (hr : c.rs[k]? = some r) (h : r.f = holN x c.rs k) : brkB c x k = false := by simp [brkB, hr, h]
/-- The first way of some length. -/
def wayR (kn : List Kw) (P dst : Nat) : Nat → Nat → List Nat × Bool
  | 0, a => ([a], decide (a = dst))
  | n + 1, a => match (List.range P).find? fun k : Nat => knowI kn a k && (wayR kn P dst n k).2 with
    | some k => (a :: (wayR kn P dst n k).1, true)
    | none => ([], false)
section
variable {kn : List Kw} {P dst : Nat}
theorem wayR_some {n a k : Nat} (hk : k < P) (h : ∀ i, i < k → (knowI kn a i && (wayR kn P dst n i).2) = false) (h1 : knowI kn a k = true) (h2 : (wayR kn P dst n k).2 = true) : wayR kn P dst (n + 1) a = (a :: (wayR kn P dst n k).1, true) := by
  simp only [wayR]
  rw [find_first hk h (by rw [h1, h2]; rfl)]
theorem wayR_none {n a : Nat} (h : ∀ i, i < P → (knowI kn a i && (wayR kn P dst n i).2) = false) : wayR kn P dst (n + 1) a = ([], false) := by
  simp only [wayR]
  rw [List.find?_eq_none.2 fun x hx => by rw [h x (List.mem_range.1 hx)]; simp]
theorem wayR_len : ∀ n a, (wayR kn P dst n a).1.length ≤ n + 1
  | 0, a => by simp [wayR]
  | n + 1, a => by
    simp only [wayR]
    split
    · rename_i k _
      have := wayR_len n k
      simp only [List.length_cons]; omega
    · simp
theorem wayR_iff (he : ∀ a b, kE kn a b = true → a < P ∧ b < P) : ∀ n a, (wayR kn P dst n a).2 = true ↔ Wk (kE kn) n a dst
  | 0, a => by simp [wayR, Wk]
  | n + 1, a => by
    simp only [wayR, Wk]
    split
    · rename_i k hk
      have h1 := List.find?_some hk
      simp only [Bool.and_eq_true] at h1
      exact ⟨fun _ => ⟨k, h1.1, (wayR_iff he n k).1 h1.2⟩, fun _ => rfl⟩
    · rename_i hn
      rw [List.find?_eq_none] at hn
      refine ⟨fun h => (by cases h), fun ⟨j, hj, hw⟩ => ?_⟩
      have := hn j (List.mem_range.2 (he a j hj).2)
      simp only [Bool.and_eq_true, not_and, Bool.not_eq_true] at this
      have h2 := this hj
      rw [(wayR_iff he n j).2 hw] at h2; cases h2
theorem nxt_same (he : ∀ a b, kE kn a b = true → a < P ∧ b < P) (hP : P ≤ 8) {n a : Nat} (h : D (kE kn) a dst = ((n + 1 : Nat) : Int)) : (fun k : Nat => knowI kn a k && (wayR kn P dst n k).2) = nxtQ kn (D (kE kn)) dst a := by
  have he8 : ∀ a b, kE kn a b = true → a < 8 ∧ b < 8 := fun a b x => by have := he a b x; omega
  have hle := (D_ok (kE kn)).le a dst
  simp only [NEV] at hle
  funext k
  simp only [nxtQ]
  cases hk : knowI kn a k with
  | false => rfl
  | true =>
    rw [Bool.true_and, Bool.true_and]
    have hka : kE kn a k = true := hk
    by_cases hd : D (kE kn) k dst = n
    · obtain ⟨m, hm, hw⟩ := D_sound (e := kE kn) (i := k) (k := dst) (by simp only [NEV]; omega)
      obtain rfl : m = n := by omega
      rw [(wayR_iff he m k).2 hw, decide_eq_true (by omega)]
    · have : (wayR kn P dst n k).2 = false := by
        cases hw : (wayR kn P dst n k).2 with
        | false => rfl
        | true =>
          have h1 := D_walk he8 ((wayR_iff he n k).1 hw)
          have h2 := D_tri (kE kn) (he8 a k hka).2 a dst
          have h3 := D_edge hka
          omega
      rw [this, decide_eq_false (by omega)]
theorem nxt_some (he : ∀ a b, kE kn a b = true → a < P ∧ b < P) (hP : P ≤ 8) {n a : Nat} (hl : D (kE kn) a dst < NEV) (h : D (kE kn) a dst = ((n + 1 : Nat) : Int)) : ∃ j, j < P ∧ nxtQ kn (D (kE kn)) dst a j = true := by
  have he8 : ∀ a b, kE kn a b = true → a < 8 ∧ b < 8 := fun a b x => by have := he a b x; omega
  obtain ⟨m, hm, hw⟩ := D_sound hl
  obtain rfl : m = n + 1 := by omega
  obtain ⟨j, hj, hw⟩ := hw
  refine ⟨j, (he a j hj).2, ?_⟩
  have h1 := D_walk he8 hw
  have h2 := D_tri (kE kn) (he8 a j hj).2 a dst
  have h3 := D_edge hj
  simp only [nxtQ, Bool.and_eq_true, decide_eq_true_eq]
  exact ⟨hj, by omega⟩
theorem wayR_pathL (he : ∀ a b, kE kn a b = true → a < P ∧ b < P) (hP : P ≤ 8) : ∀ n a, a < P → D (kE kn) a dst < NEV → D (kE kn) a dst = (n : Nat) → wayR kn P dst n a = (pathL kn (D (kE kn)) P dst n a, true) := by
  intro n
  induction n with
  | zero =>
    intro a ha hl h
    obtain ⟨n, hn, hw⟩ := D_sound hl
    have hn0 : n = 0 := by omega
    subst hn0
    have hw : a = dst := hw
    rw [wayR, pathL, decide_eq_true hw]
  | succ n ih =>
    intro a ha hl h
    rw [wayR, pathL, nxt_same he hP h]
    cases hk : (List.range P).find? (nxtQ kn (D (kE kn)) dst a) with
    | some k =>
      have h1 := List.find?_some hk
      have h0 := List.mem_range.1 (List.mem_of_find?_eq_some hk)
      simp only [nxtQ, Bool.and_eq_true, decide_eq_true_eq] at h1
      simp only []
      rw [ih k h0 (by omega) (by omega)]
    | none =>
      exfalso
      obtain ⟨j, hj, hq⟩ := nxt_some he hP hl h
      rw [List.find?_eq_none] at hk
      exact hk j (List.mem_range.2 hj) hq
end
theorem dec_cast (a b : Nat) : decide ((a : Int) = (b : Int)) = decide (a = b) := by
  by_cases h : a = b
  · rw [decide_eq_true h, decide_eq_true (by omega)]
  · rw [decide_eq_false h, decide_eq_false (by omega)]
theorem eF_kE (l : List Kw) : eF l (-1) = kE l := by
  funext i k
  simp only [eF, kE]
  rw [decide_eq_false (by omega), decide_eq_false (by omega)]; rfl
theorem kE_in {c : Ch} (h : c.valid = true) : ∀ a b, kE c.kn a b = true → a < c.ps.toNat ∧ b < c.ps.toNat := fun a b hab => by
  obtain ⟨k, hk, hq⟩ := List.any_eq_true.1 hab
  have := valid_kn h hk
  simp only [knowQ, Bool.or_eq_true, Bool.and_eq_true, decide_eq_true_eq] at hq
  omega
end Go.Proofs.Ytagdholenfkeaaa

/- What the document's numbers are: least numbers of unwritten times. No program in sight but for what functions return. -/
namespace Go.Proofs.Ytagdholenfkeaaa
open Go.Gh
theorem tot_link (f : Mx) : ∀ (l : List (Nat × Rc)) (h : Int), totV f (toL h l) = totN f h.toNat (ftL l)
  | [], h => rfl
  | e :: l, h => by
    have := tot_link f l e.2.t
    simp only [toL, totV, leastV, ftL, List.map_cons, totN]
    rw [this]; rfl
theorem steps_tot (f : Mx) (l : List (Nat × Rc)) : totV f (stepsL l) = totN f 0 (ftL l) := by
  rw [stepsL, totV_snoc, tot_link]; simp [leastV]
theorem last_link : ∀ (l : List (Nat × Rc)) (h : Int), (lastH h l).toNat = lastN h.toNat (ftL l)
  | [], h => rfl
  | e :: l, h => by rw [lastH_cons, last_link l]; rfl
theorem last_sel {p : Int} {rs : List Rc} : lastH 0 (selN p (allS rs.length) rs rs.length) = holN p rs rs.length := by
  rw [← last_hol rs.length (fun i hi => all_bit hi)]; rfl
/-- Without a person: the keeper's, whom nothing counts. -/
theorem zero_fold {e eb : Nat → Nat → Bool} : ∀ (l : List (Nat × Nat)) (q : AB), q.A = 1000 → 0 ≤ q.B → q.B ≤ 1000 → (l.foldl (recAB e eb 0) q).A = 1000 ∧ (l.foldl (recAB e eb 0) q).B = min 1000 (q.B + totN (D e) q.h l)
  | [], q, hA, hB, hB2 => by simp only [List.foldl_nil, totN]; exact ⟨hA, by omega⟩
  | z :: l, q, hA, hB, hB2 => by
    have n1 := (D_ok e).nn q.h z.1; have n2 := (D_ok e).nn q.h 0; have n3 := (D_ok e).nn 0 z.1; have n4 := (D_ok eb).nn q.h z.1
    have f0 : Fm e eb 0 q.h q.A q.B z.1 0 = 1000 := by simp only [Fm, reduceIte, hA]; omega
    have f1 : Fm e eb 0 q.h q.A q.B z.1 1 = min 1000 (q.B + D e q.h z.1) := by simp only [Fm, Nat.one_ne_zero, reduceIte, hA]; omega
    have hz : recAB e eb 0 q z = ⟨z.2, 1000, min 1000 (q.B + D e q.h z.1)⟩ := by
      rw [recAB, f0, f1, mkAB]
      split
      · congr 1; omega
      · rfl
    rw [List.foldl_cons, hz]
    obtain ⟨h1, h2⟩ := zero_fold l ⟨z.2, 1000, min 1000 (q.B + D e q.h z.1)⟩ rfl (by simp only; omega) (by simp only; omega)
    refine ⟨h1, ?_⟩
    have := totN_nn (D_ok e) l z.2
    rw [h2, totN]; simp only; omega
theorem zero_aft {e eb : Nat → Nat → Bool} {P : Nat} (he : ∀ a b, e a b = true → a < P ∧ b < P) (hb : ∀ a b, eb a b = true ↔ e a b = true ∧ a ≠ 0 ∧ b ≠ 0) (hP : P ≤ 8) (hw : 0 < P) {l : List (Nat × Nat)} (hl : ∀ z ∈ l, z.1 < P ∧ z.2 < P) (x : Nat) :
    aftG e 0 P l x 0 = 1000 ∧ aftG e 0 P l x 1 = min 1000 (totN (D e) 0 l + D e (lastN 0 l) x) := by
  obtain ⟨hq, h⟩ := aft_eq he hb hP hw hl
  have hmk : mkAB 0 0 0 1000 = ⟨0, 1000, 0⟩ := by rw [mkAB, if_pos rfl]; rfl
  have hh : (endAB e eb 0 l).h = lastN 0 l := by rw [endAB, fold_h, hmk]
  obtain ⟨hA, hB⟩ := zero_fold (e := e) (eb := eb) l ⟨0, 1000, 0⟩ rfl (by simp only; omega) (by simp only; omega)
  rw [← hmk] at hA hB
  have hA' : (endAB e eb 0 l).A = 1000 := hA
  have hB' : (endAB e eb 0 l).B = min 1000 (totN (D e) 0 l) := by
    have hB2 : (endAB e eb 0 l).B = min 1000 ((mkAB 0 0 0 1000).B + totN (D e) (mkAB 0 0 0 1000).h l) := hB
    rw [hmk] at hB2; simpa using hB2
  have n0 := totN_nn (D_ok e) l 0
  have n1 := (D_ok e).nn (lastN 0 l) x; have n2 := (D_ok e).nn (lastN 0 l) 0; have n3 := (D_ok e).nn 0 x; have n4 := (D_ok eb).nn (lastN 0 l) x
  rw [h x 0 (by omega), h x 1 (by omega), hA', hB', hh]
  constructor
  · simp only [Fm, reduceIte]; omega
  · simp only [Fm, Nat.one_ne_zero, reduceIte]; omega
/-- Who hands over, without a person. -/
theorem eF_iff (l : List Kw) (w : Nat) : ∀ a b, eF l (w : Nat) a b = true ↔ kE l a b = true ∧ a ≠ w ∧ b ≠ w := fun a b => by
  simp only [eF, kE, Bool.and_eq_true, Bool.not_eq_true', decide_eq_false_iff_not]
  rw [show ((a : Int) = (w : Int)) ↔ a = w by omega, show ((b : Int) = (w : Int)) ↔ b = w by omega]
  exact ⟨fun h => ⟨h.2, h.1.1, h.1.2⟩, fun h => ⟨⟨h.2.1, h.2.2⟩, h.1⟩⟩
theorem selC_lt {c : Ch} (hv : c.valid = true) (p : Int) (set : Nat) : ∀ z ∈ selC c p set, z.1 < c.ps.toNat ∧ z.2 < c.ps.toNat := fun z hz => by
  obtain ⟨e, he, rfl⟩ := List.mem_map.1 hz
  have := valid_rs hv (List.mem_of_getElem? (sel_mem _ e he).2.1)
  simp only; omega
theorem selC_len (c : Ch) (p : Int) (set : Nat) : (selC c p set).length ≤ c.rs.length := by
  rw [selC, ftL, List.length_map]; exact sel_le _
theorem lastN_lt {P : Nat} : ∀ (l : List (Nat × Nat)) (h : Nat), h < P → (∀ z ∈ l, z.1 < P ∧ z.2 < P) → lastN h l < P
  | [], _, hh, _ => hh
  | z :: l, _, _, hl => lastN_lt l z.2 (hl z (by simp)).2 fun y hy => hl y (List.mem_cons_of_mem _ hy)
/-- The least number of a plate. -/
def totC (c : Ch) (p : Int) (set : Nat) : Int := totN (D (kE c.kn)) 0 (selC c p set)
theorem totC_nn (c : Ch) (p : Int) (set : Nat) : 0 ≤ totC c p set := totN_nn (D_ok _) _ _
theorem minS_le {S : Mx} {x : Nat} : ∀ k, x < k → minS S k ≤ S x 1
  | k + 1, h => by
    simp only [minS]
    by_cases e : x = k
    · subst e; omega
    · have := minS_le (S := S) k (show x < k by omega); omega
theorem minS_top {S : Mx} : ∀ k, minS S k ≤ 1000
  | 0 => by simp [minS]
  | k + 1 => by have := minS_top (S := S) k; simp only [minS]; omega
theorem minS_ge {S : Mx} {X : Int} (h0 : X ≤ 1000) (h : ∀ x, X ≤ S x 0 ∧ X ≤ S x 1) : ∀ k, X ≤ minS S k
  | 0 => by simpa [minS] using h0
  | k + 1 => by have := minS_ge h0 h k; have := h k; simp only [minS]; omega
theorem aft_state {c : Ch} (hv : c.valid = true) (p : Int) (set x : Nat) : aftG (kE c.kn) 0 c.ps.toNat (selC c p set) x 0 = 1000 ∧ aftG (kE c.kn) 0 c.ps.toNat (selC c p set) x 1 = min 1000 (totC c p set + D (kE c.kn) (lastN 0 (selC c p set)) x) := by
  have hn := valid_num hv
  exact zero_aft (kE_in hv) (eF_iff c.kn 0) (by omega) (by omega) (selC_lt hv p set) x
theorem ned_eq {c : Ch} (hv : c.valid = true) (p : Int) (set : Nat) : nedV c p set = min 1000 (totC c p set) := by
  have hn := valid_num hv
  have hs := aft_state hv p set
  have hl := lastN_lt (P := c.ps.toNat) (selC c p set) 0 (by omega) (selC_lt hv p set)
  have z := (D_ok (kE c.kn)).zz (lastN 0 (selC c p set))
  have h1 := minS_le (S := aftG (kE c.kn) 0 c.ps.toNat (selC c p set)) c.ps.toNat hl
  have h2 := minS_top (S := aftG (kE c.kn) 0 c.ps.toNat (selC c p set)) c.ps.toNat
  have h3 := minS_ge (S := aftG (kE c.kn) 0 c.ps.toNat (selC c p set)) (X := min 1000 (totC c p set)) (by omega) (fun x => by
    have := hs x
    have := (D_ok (kE c.kn)).nn (lastN 0 (selC c p set)) x
    omega) c.ps.toNat
  have := (hs (lastN 0 (selC c p set))).2
  simp only [nedV]
  omega
/-- All plates. -/
def sumC (c : Ch) (set : Nat) : Nat → Int
  | 0 => 0
  | k + 1 => sumC c set k + totC c (k : Nat) set
theorem sum_link (c : Ch) (set : Nat) : ∀ k, allV (D (eF c.kn (-1))) c.rs set k = sumC c set k
  | 0 => rfl
  | k + 1 => by rw [allV, sumC, sum_link c set k, steps_tot, eF_kE]; rfl
theorem sumC_nn (c : Ch) (set : Nat) : ∀ k, 0 ≤ sumC c set k
  | 0 => by simp [sumC]
  | k + 1 => by have := sumC_nn c set k; have := totC_nn c (k : Nat) set; simp only [sumC]; omega
theorem ned_all {c : Ch} (hv : c.valid = true) (set : Nat) : ∀ k, nedR c set (-1) k ≤ sumC c set k ∧ 0 ≤ nedR c set (-1) k ∧ (nedR c set (-1) k < 1000 → nedR c set (-1) k = sumC c set k)
  | 0 => by simp [nedR, sumC]
  | k + 1 => by
    obtain ⟨h1, h2, h3⟩ := ned_all hv set k
    have h4 := ned_eq hv (k : Nat) set
    have h5 := totC_nn c (k : Nat) set
    simp only [nedR, sumC]
    rw [if_pos (by omega)]
    omega
theorem ned_but {c : Ch} (set p : Nat) : ∀ k, nedR c set (p : Nat) k + (if p < k then nedV c (p : Nat) set else 0) = nedR c set (-1) k
  | 0 => by simp [nedR]
  | k + 1 => by
    have := ned_but (c := c) set p k
    simp only [nedR]
    rw [if_pos (show ¬ ((k : Nat) : Int) = -1 by omega)]
    by_cases e : k = p
    · subst e
      rw [if_neg (by omega), if_pos (by omega)]
      rw [if_neg (by omega)] at this
      omega
    · rw [if_pos (by omega)]
      by_cases h : p < k
      · rw [if_pos (by omega)]; rw [if_pos h] at this; omega
      · rw [if_neg (by omega)]; rw [if_neg h] at this; omega
theorem totN_fin {e : Nat → Nat → Bool} {P : Nat} (hP : P ≤ 8) (he : ∀ a b, e a b = true → a < P ∧ b < P) : ∀ (l : List (Nat × Nat)) (h : Nat), h < P → (∀ z ∈ l, z.1 < P ∧ z.2 < P) → totN (D e) h l < NEV → totN (D e) h l ≤ 8 * l.length
  | [], _, _, _, _ => by simp [totN]
  | z :: l, h, hh, hl, hx => by
    have hz := hl z (by simp)
    have n1 := (D_ok e).nn h z.1
    have n2 := totN_nn (D_ok e) l z.2
    simp only [totN] at hx ⊢
    have h1 := D_lt hP he hh (show D e h z.1 < NEV by omega)
    have h2 := totN_fin hP he l z.2 hz.2 (fun y hy => hl y (List.mem_cons_of_mem _ hy)) (by omega)
    simp only [List.length_cons]; omega
theorem sum_fin {c : Ch} (hv : c.valid = true) (set : Nat) : ∀ k, sumC c set k < NEV → sumC c set k ≤ 96 * k
  | 0, _ => by simp [sumC]
  | k + 1, h => by
    have hn := valid_num hv
    have n1 := sumC_nn c set k
    have n2 := totC_nn c (k : Nat) set
    simp only [sumC] at h ⊢
    have h1 := sum_fin hv set k (by omega)
    have h2 := totN_fin (by omega) (kE_in hv) (selC c (k : Nat) set) 0 (by omega) (selC_lt hv _ _) (show totN (D (kE c.kn)) 0 (selC c (k : Nat) set) < NEV by
      have : totC c (k : Nat) set < NEV := by omega
      exact this)
    have h3 := selC_len c (k : Nat) set
    have h4 : totC c (k : Nat) set ≤ 8 * (selC c (k : Nat) set).length := h2
    omega
theorem least_eq (c : Ch) : leastC c = sumC c (allS c.rs.length) c.pl.toNat := sum_link c _ _
/-- The document's least number, and the program's. -/
theorem least_doc {c : Ch} (hv : c.valid = true) : (leastC c < 1048576 → nedR c (allS c.rs.length) (-1) c.pl.toNat = leastC c ∧ leastC c < 1000) ∧ (¬ leastC c < 1048576 → 1000 ≤ nedR c (allS c.rs.length) (-1) c.pl.toNat) := by
  have hn := valid_num hv
  obtain ⟨h1, h2, h3⟩ := ned_all hv (allS c.rs.length) c.pl.toNat
  have h4 := sum_fin hv (allS c.rs.length) c.pl.toNat
  simp only [NEV] at h4
  rw [least_eq]
  constructor
  · intro h
    have := h4 h
    exact ⟨h3 (by omega), by omega⟩
  · intro h
    by_cases hc : 1000 ≤ nedR c (allS c.rs.length) (-1) c.pl.toNat
    · exact hc
    · have := h3 (by omega); omega
theorem small_doc {c : Ch} (hv : c.valid = true) (set : Nat) {X : Int} (hX : X < 1000) : nedR c set (-1) c.pl.toNat ≤ X ↔ sumC c set c.pl.toNat ≤ X := by
  obtain ⟨h1, h2, h3⟩ := ned_all hv set c.pl.toNat
  constructor
  · intro h; rw [← h3 (by omega)]; exact h
  · intro h; omega
end Go.Proofs.Ytagdholenfkeaaa

/- The document: Least; what the statements leave out. -/
namespace Go.Proofs.Ytagdholenfkeaaa
open Go.Gh
set_option maxRecDepth 100000
set_option maxHeartbeats 4000000
structure kWl1 (c : Prop) : Prop where
  h : c := by (first | exact True.intro | (simp only [inI]; omega) | (simp [P.size, pr, pk, all_int, allOne_p, goods_p, allOne, goods, good, G.one, P.one, P.cells] <;> first | omega | assumption | simp_all))
theorem ent22 : Enters Try.prog 22 := Enters.mk Try.func22 (by kernel_rfl) rfl
theorem r_least_t (c : Ch) (hv : c.valid = true) (hc : leastC c < 1048576) : PSpec Try.prog 22 [.agg [.int .i64 c.pl, .int .i64 c.ps, .list (c.kn.map pk), .list (c.rs.map pr), .int .i64 c.ms]] (.ok (.tuple [.int .i64 (leastC c), .int .i64 0])) := by
  refine pspec_of Try.func22 (rfl : Try.f22.body = some _) rfl ?_
  intro E A C hN hL
  replace hN : C.N = 18 := hN
  simp only [Gh.num, List.map_cons, List.map_nil, Nat.reduceAdd]
  have hn := valid_num hv
  have hdt : ∀ (i : Decidable True), @decide True i = true := fun i => decide_eq_true trivial
  have hdf : ∀ (i : Decidable False), @decide False i = false := fun i => decide_eq_false id
  have hal := allS_lt (n := c.rs.length) (by omega)
  have hl := (least_doc hv).1 hc
  have hlt := hl.2
  repeat refine gwp_seq ?_
  refine gwp_region ?_
  refine n1 110 false (hc := kWl1.h {}) (k := ?_)
  refine v0 (k := ?_)
  refine v0 (k := ?_)
  refine nil0 ?_
  refine cl [1] (k := ?_)
  repeat refine gwp_seq ?_
  refine gwp_region ?_
  refine v0 (k := ?_)
  refine pc0 (spec := r_check_t c hv) (hent := ent48) (k := ?_)
  refine v0 (k := ?_)
  refine nil0 ?_
  refine cl [1, 4] (k := ?_)
  repeat refine gwp_seq ?_
  refine gwp_region ?_
  refine v0 (k := ?_)
  refine v0 (k := ?_)
  refine rb 9 false (h := by (first | rfl | decide)) (k := ?_)
  refine nil0 ?_
  repeat refine gwp_seq ?_
  refine cF (k := ?_)
  repeat refine gwp_seq ?_
  refine gwp_skip ?_
  refine cl [1] (k := ?_)
  repeat refine gwp_seq ?_
  refine rd ?_
  refine d0 0 (k := ?_)
  refine d0 1 (k := ?_)
  refine dpc0 2 (spec := r_every c hv) (hent := ent66) (k := ?_)
  refine dpc0 3 (spec := r_Needs c hv (allS c.rs.length) hal (-1)) (hent := ent65) (k := ?_)
  refine d0 4 (k := ?_)
  refine dz 5 [0, 0, 2, 7, 15] (h := ?_)
  refine de 5 (h := ?_)
  refine cl [5] (k := ?_)
  repeat refine gwp_seq ?_
  refine gwp_region ?_
  refine v0 (k := ?_)
  refine v0 (k := ?_)
  refine rb 16 false (h := by (first | exact decide_eq_false (by omega) | rfl)) (k := ?_)
  refine nil0 ?_
  repeat refine gwp_seq ?_
  refine cF (k := ?_)
  repeat refine gwp_seq ?_
  refine gwp_skip ?_
  refine cl [5] (k := ?_)
  repeat refine gwp_seq ?_
  refine gwp_region ?_
  refine v0 (k := ?_)
  refine v0 (k := ?_)
  refine v0 (k := ?_)
  refine nil0 ?_
  repeat refine gwp_seq ?_
  refine gwp_ret ?_
  repeat (first | refine gthen_ret ?_ | refine gblock_ret ?_ | refine gnoGoto_ret ?_)
  refine fin_ret ?_
  refine fp2 (hR := ?_)
  first
  | rfl
  | (rw [hl.1]; rfl)
theorem r_least_c (c : Ch) (hv : c.valid = true) (hc : ¬ leastC c < 1048576) : PSpec Try.prog 22 [.agg [.int .i64 c.pl, .int .i64 c.ps, .list (c.kn.map pk), .list (c.rs.map pr), .int .i64 c.ms]] (.ok (.tuple [.int .i64 0, .int .i64 10])) := by
  refine pspec_of Try.func22 (rfl : Try.f22.body = some _) rfl ?_
  intro E A C hN hL
  replace hN : C.N = 18 := hN
  simp only [Gh.num, List.map_cons, List.map_nil, Nat.reduceAdd]
  have hn := valid_num hv
  have hdt : ∀ (i : Decidable True), @decide True i = true := fun i => decide_eq_true trivial
  have hdf : ∀ (i : Decidable False), @decide False i = false := fun i => decide_eq_false id
  have hal := allS_lt (n := c.rs.length) (by omega)
  have hl := (least_doc hv).2 hc
  repeat refine gwp_seq ?_
  refine gwp_region ?_
  refine n1 110 false (hc := kWl1.h {}) (k := ?_)
  refine v0 (k := ?_)
  refine v0 (k := ?_)
  refine nil0 ?_
  refine cl [1] (k := ?_)
  repeat refine gwp_seq ?_
  refine gwp_region ?_
  refine v0 (k := ?_)
  refine pc0 (spec := r_check_t c hv) (hent := ent48) (k := ?_)
  refine v0 (k := ?_)
  refine nil0 ?_
  refine cl [1, 4] (k := ?_)
  repeat refine gwp_seq ?_
  refine gwp_region ?_
  refine v0 (k := ?_)
  refine v0 (k := ?_)
  refine rb 9 false (h := by (first | rfl | decide)) (k := ?_)
  refine nil0 ?_
  repeat refine gwp_seq ?_
  refine cF (k := ?_)
  repeat refine gwp_seq ?_
  refine gwp_skip ?_
  refine cl [1] (k := ?_)
  repeat refine gwp_seq ?_
  refine rd ?_
  refine d0 0 (k := ?_)
  refine d0 1 (k := ?_)
  refine dpc0 2 (spec := r_every c hv) (hent := ent66) (k := ?_)
  refine dpc0 3 (spec := r_Needs c hv (allS c.rs.length) hal (-1)) (hent := ent65) (k := ?_)
  refine d0 4 (k := ?_)
  refine dz 5 [0, 0, 2, 7, 15] (h := ?_)
  refine de 5 (h := ?_)
  refine cl [5] (k := ?_)
  repeat refine gwp_seq ?_
  refine gwp_region ?_
  refine v0 (k := ?_)
  refine v0 (k := ?_)
  refine rb 16 true (h := by (first | exact decide_eq_true (by omega) | rfl)) (k := ?_)
  refine nil0 ?_
  repeat refine gwp_seq ?_
  refine cT (k := ?_)
  repeat refine gwp_seq ?_
  refine gwp_region ?_
  refine v0 (k := ?_)
  refine v0 (k := ?_)
  refine nil0 ?_
  repeat refine gwp_seq ?_
  refine gwp_ret ?_
  repeat (first | refine gthen_ret ?_ | refine gblock_ret ?_ | refine gnoGoto_ret ?_)
  refine fin_ret ?_
  refine fp2 (hR := ?_)
  rfl
theorem r_least_f (c : Ch) (h1 : c.kn.length ≤ 1048576) (h2 : c.rs.length ≤ 1048576) (hv : c.valid = false) : PSpec Try.prog 22 [.agg [.int .i64 c.pl, .int .i64 c.ps, .list (c.kn.map pk), .list (c.rs.map pr), .int .i64 c.ms]] (.ok (.tuple [.int .i64 0, .int .i64 1])) := by
  refine pspec_of Try.func22 (rfl : Try.f22.body = some _) rfl ?_
  intro E A C hN hL
  replace hN : C.N = 18 := hN
  simp only [Gh.num, List.map_cons, List.map_nil, Nat.reduceAdd]
  have hdt : ∀ (i : Decidable True), @decide True i = true := fun i => decide_eq_true trivial
  have hdf : ∀ (i : Decidable False), @decide False i = false := fun i => decide_eq_false id
  repeat refine gwp_seq ?_
  refine gwp_region ?_
  refine n1 110 false (hc := kWl1.h {}) (k := ?_)
  refine v0 (k := ?_)
  refine v0 (k := ?_)
  refine nil0 ?_
  refine cl [1] (k := ?_)
  repeat refine gwp_seq ?_
  refine gwp_region ?_
  refine v0 (k := ?_)
  refine pc0 (spec := r_check_f c h1 h2 hv true) (hent := ent48) (k := ?_)
  refine v0 (k := ?_)
  refine nil0 ?_
  refine cl [1, 4] (k := ?_)
  repeat refine gwp_seq ?_
  refine gwp_region ?_
  refine v0 (k := ?_)
  refine v0 (k := ?_)
  refine rb 9 true (h := by (first | rfl | decide)) (k := ?_)
  refine nil0 ?_
  repeat refine gwp_seq ?_
  refine cT (k := ?_)
  repeat refine gwp_seq ?_
  refine gwp_region ?_
  refine v0 (k := ?_)
  refine v0 (k := ?_)
  refine v0 (k := ?_)
  refine nil0 ?_
  repeat refine gwp_seq ?_
  refine gwp_ret ?_
  repeat (first | refine gthen_ret ?_ | refine gblock_ret ?_ | refine gnoGoto_ret ?_)
  refine fin_ret ?_
  refine fp2 (hR := ?_)
  rfl
theorem r_least (c : Ch) (h1 : c.kn.length ≤ 1048576) (h2 : c.rs.length ≤ 1048576) : PSpec Try.prog 22 [.agg [.int .i64 c.pl, .int .i64 c.ps, .list (c.kn.map pk), .list (c.rs.map pr), .int .i64 c.ms]] (.ok (.tuple [.int .i64 (leastA c).1, .int .i64 (leastA c).2])) := by
  by_cases hv : c.valid = true
  · by_cases hc : leastC c < 1048576
    · rw [leastA, if_pos hv, if_pos hc]
      exact r_least_t c hv hc
    · rw [leastA, if_pos hv, if_neg hc]
      exact r_least_c c hv hc
  · rw [leastA, if_neg hv]
    exact r_least_f c h1 h2 (by simpa using hv)
end Go.Proofs.Ytagdholenfkeaaa

/- What the statements leave out. -/
namespace Go.Proofs.Ytagdholenfkeaaa
open Go.Gh
set_option maxRecDepth 100000
set_option maxHeartbeats 4000000
structure kWm1 (c : Prop) : Prop where
  h : c := by (first | exact True.intro | (simp only [inI]; omega) | (simp [P.size, pr, pk, all_int, allOne_p, goods_p, allOne, goods, good, G.one, P.one, P.cells] <;> first | omega | assumption | simp_all))
/-- Is there far too much of something? -/
def greatB (c : Ch) (n : Int) : Bool := decide (60 < c.kn.length ∨ 60 < c.rs.length) || (decide (n < (c.rs.length : Int)) && c.valid)
theorem great_len {c : Ch} {n : Int} (h : greatB c n = false) : c.kn.length ≤ 60 ∧ c.rs.length ≤ 60 := by
  simp only [greatB, Bool.or_eq_false_iff, decide_eq_false_iff_not] at h
  omega
theorem ent13 : Enters Try.prog 13 := Enters.mk Try.func13 (by kernel_rfl) rfl
theorem l_great_t (c : Ch) (n : Int) (h : 60 < c.kn.length ∨ 60 < c.rs.length) : PSpec Try.prog 13 [.agg [.int .i64 c.pl, .int .i64 c.ps, .list (c.kn.map pk), .list (c.rs.map pr), .int .i64 c.ms], .int .i64 n] (.ok (.bool true)) := by
  refine pspec_of Try.func13 (rfl : Try.f13.body = some _) rfl ?_
  intro E A C hN hL
  replace hN : C.N = 24 := hN
  simp only [Gh.num, List.map_cons, List.map_nil, Nat.reduceAdd]
  repeat refine gwp_seq ?_
  refine gwp_region ?_
  refine n1 120 false (hc := kWm1.h {}) (k := ?_)
  refine v0 (k := ?_)
  refine nil0 ?_
  refine cl [1, 2] (k := ?_)
  repeat refine gwp_seq ?_
  refine gwp_region ?_
  refine v0 (k := ?_)
  refine v0 (k := ?_)
  refine v0 (k := ?_)
  refine v0 (k := ?_)
  refine v0 (k := ?_)
  refine v0 (k := ?_)
  refine v0 (k := ?_)
  refine v0 (k := ?_)
  refine rb 12 true (h := by (exact decide_eq_true (by omega))) (k := ?_)
  refine v0 (k := ?_)
  refine x0 (k := ?_)
  refine x0 (k := ?_)
  refine x0 (k := ?_)
  refine x0 (k := ?_)
  refine x0 (k := ?_)
  refine x0 (k := ?_)
  refine x1 (k := ?_)
  refine x1 (k := ?_)
  refine x0 (k := ?_)
  refine v0 (k := ?_)
  refine v0 (k := ?_)
  refine nil0 ?_
  repeat refine gwp_seq ?_
  refine gwp_ret ?_
  repeat (first | refine gthen_ret ?_ | refine gblock_ret ?_ | refine gnoGoto_ret ?_)
  refine fin_ret ?_
  refine fp (hR := ?_)
  rfl
theorem l_great_f (c : Ch) (n : Int) (h1 : c.kn.length ≤ 60) (h2 : c.rs.length ≤ 60) : PSpec Try.prog 13 [.agg [.int .i64 c.pl, .int .i64 c.ps, .list (c.kn.map pk), .list (c.rs.map pr), .int .i64 c.ms], .int .i64 n] (.ok (.bool (decide (n < (c.rs.length : Int)) && c.valid))) := by
  refine pspec_of Try.func13 (rfl : Try.f13.body = some _) rfl ?_
  intro E A C hN hL
  replace hN : C.N = 24 := hN
  simp only [Gh.num, List.map_cons, List.map_nil, Nat.reduceAdd]
  repeat refine gwp_seq ?_
  refine gwp_region ?_
  refine n1 120 false (hc := kWm1.h {}) (k := ?_)
  refine v0 (k := ?_)
  refine nil0 ?_
  refine cl [1, 2] (k := ?_)
  repeat refine gwp_seq ?_
  refine gwp_region ?_
  refine v0 (k := ?_)
  refine v0 (k := ?_)
  refine v0 (k := ?_)
  refine v0 (k := ?_)
  refine v0 (k := ?_)
  refine v0 (k := ?_)
  refine v0 (k := ?_)
  refine v0 (k := ?_)
  refine rb 12 false (h := by (exact decide_eq_false (by omega))) (k := ?_)
  refine v0 (k := ?_)
  refine w0 (k := ?_)
  refine w0 (k := ?_)
  refine w0 (k := ?_)
  refine w0 (k := ?_)
  refine w0 (k := ?_)
  refine w0 (k := ?_)
  refine b0 (k1 := fun hb1 => ?_) (k0 := fun hb1 => ?_)
  · replace hb1 := hB.h {} hb1
    refine w0 (k := ?_)
    refine pcw (spec := r_chain c (by omega) (by omega)) (hent := ent35) (k := ?_)
    refine w0 (k := ?_)
    refine v0 (k := ?_)
    refine v0 (k := ?_)
    refine nil0 ?_
    repeat refine gwp_seq ?_
    refine gwp_ret ?_
    repeat (first | refine gthen_ret ?_ | refine gblock_ret ?_ | refine gnoGoto_ret ?_)
    refine fin_ret ?_
    refine fp (hR := ?_)
    first
    | rfl
    | (rw [decide_eq_false (show ¬ n < (c.rs.length : Int) by omega)]; rfl)
    | (rw [decide_eq_true (show n < (c.rs.length : Int) by omega)]; rfl)
  · replace hb1 := hB.h {} hb1
    refine x0 (k := ?_)
    refine x0 (k := ?_)
    refine w0 (k := ?_)
    refine v0 (k := ?_)
    refine v0 (k := ?_)
    refine nil0 ?_
    repeat refine gwp_seq ?_
    refine gwp_ret ?_
    repeat (first | refine gthen_ret ?_ | refine gblock_ret ?_ | refine gnoGoto_ret ?_)
    refine fin_ret ?_
    refine fp (hR := ?_)
    first
    | rfl
    | (rw [decide_eq_false (show ¬ n < (c.rs.length : Int) by omega)]; rfl)
    | (rw [decide_eq_true (show n < (c.rs.length : Int) by omega)]; rfl)
theorem l_great (c : Ch) (n : Int) : PSpec Try.prog 13 [.agg [.int .i64 c.pl, .int .i64 c.ps, .list (c.kn.map pk), .list (c.rs.map pr), .int .i64 c.ms], .int .i64 n] (.ok (.bool (greatB c n))) := by
  by_cases h : 60 < c.kn.length ∨ 60 < c.rs.length
  · rw [greatB, decide_eq_true h]; exact l_great_t c n h
  · rw [greatB, decide_eq_false h]; exact l_great_f c n (by omega) (by omega)
end Go.Proofs.Ytagdholenfkeaaa

/- The document: Break, way, Path. -/
namespace Go.Proofs.Ytagdholenfkeaaa
open Go.Gh
set_option maxRecDepth 100000
set_option maxHeartbeats 4000000
structure kWh1 (c : Prop) : Prop where
  h : c := by (first | exact True.intro | (simp only [inI]; omega) | (simp [P.size, pr, pk, all_int, allOne_p, goods_p, allOne, goods, good, G.one, P.one, P.cells] <;> first | omega | assumption | simp_all))
structure kWh2 (c : Prop) : Prop where
  h : c := by (first | exact True.intro | (simp only [inI]; omega) | exact ⟨trivial, rfl, rfl, hsz, by omega, by omega, by omega⟩ | exact ⟨rfl, hsz, by omega, by omega⟩ | exact ⟨hsz, by omega, by omega⟩ | (simp [P.size, pr, pk, all_int, allOne_p, goods_p, allOne, goods, good, G.one, P.one, P.cells] <;> first | omega | assumption | simp_all))
theorem ent18 : Enters Try.prog 18 := Enters.mk Try.func18 (by kernel_rfl) rfl
theorem r_break_t (c : Ch) (hv : c.valid = true) (x : Int) (hq : inQ x c.pl = true) : PSpec Try.prog 18 [.agg [.int .i64 c.pl, .int .i64 c.ps, .list (c.kn.map pk), .list (c.rs.map pr), .int .i64 c.ms], .int .i64 x] (.ok (.tuple [.int .i64 (brkV c x).1, .int .i64 (brkV c x).2])) := by
  refine pspec_of Try.func18 (rfl : Try.f18.body = some _) rfl ?_
  intro E A C hN hL
  replace hN : C.N = 45 := hN
  simp only [Gh.num, List.map_cons, List.map_nil, Nat.reduceAdd]
  have hn := valid_num hv
  have hdt : ∀ (i : Decidable True), @decide True i = true := fun i => decide_eq_true trivial
  have hdf : ∀ (i : Decidable False), @decide False i = false := fun i => decide_eq_false id
  have hpk : ∀ k : Kw, pk k = P.agg [.int .i64 k.a, .int .i64 k.b] := fun _ => rfl
  have hpr : ∀ r : Rc, pr r = P.agg [.int .i64 r.p, .int .i64 r.f, .int .i64 r.t] := fun _ => rfl
  repeat refine gwp_seq ?_
  refine gwp_region ?_
  refine n1 120 false (hc := kWh1.h {}) (k := ?_)
  refine v0 (k := ?_)
  refine v0 (k := ?_)
  refine nil0 ?_
  refine cl [1, 2] (k := ?_)
  repeat refine gwp_seq ?_
  refine rd ?_
  refine d0 0 (k := ?_)
  refine d0 1 (k := ?_)
  refine d0 2 (k := ?_)
  refine dpc0 3 (spec := r_plateT c hv x hq) (hent := ent49) (k := ?_)
  refine dpc0 4 (spec := r_check_t c hv) (hent := ent48) (k := ?_)
  refine d0 5 (k := ?_)
  refine dz 6 [0, 0, 0, 6, 15, 31] (h := ?_)
  refine de 6 (h := ?_)
  refine cl [1, 2, 6] (k := ?_)
  repeat refine gwp_seq ?_
  refine gwp_region ?_
  refine v0 (k := ?_)
  refine v0 (k := ?_)
  refine rb 14 false (h := by (first | rfl | decide)) (k := ?_)
  refine nil0 ?_
  repeat refine gwp_seq ?_
  refine cF (k := ?_)
  repeat refine gwp_seq ?_
  refine gwp_skip ?_
  refine cl [1, 2] (k := ?_)
  repeat refine gwp_seq ?_
  refine gwp_region ?_
  refine v0 (k := ?_)
  refine nil0 ?_
  refine cl [1, 2, 7] (k := ?_)
  repeat refine gwp_seq ?_
  refine gwp_block ?_
  repeat refine gwp_seq ?_
  refine gc_loop (fun mz σ => ∃ k : Nat, (k ≤ c.rs.length) ∧ (∀ i, i < k → brkB c x i = false) ∧ mz = c.rs.length - k ∧ σ = (sg [(1, .p (.int .i64 x)), (2, .ref 120 0), (7, .p (.int .i64 (k : Nat)))] [(120, .cells [.p (.int .i64 c.pl), .p (.int .i64 c.ps), .p (.list (c.kn.map pk)), .p (.list (c.rs.map pr)), .p (.int .i64 c.ms)] 0)] A [] : Sg E)) ?_ (fun mz σ hI => ?_)
  · refine lbeg [1, 2, 7] (hV := ?_)
    exact ⟨_, 0, by omega, fun i hi => by omega, rfl, rfl⟩
  obtain ⟨k, hk, hf, hnn, rfl⟩ := hI
  repeat refine gwp_seq ?_
  refine gwp_region ?_
  refine v0 (k := ?_)
  refine v0 (k := ?_)
  refine v0 (k := ?_)
  refine v0 (k := ?_)
  refine v0 (k := ?_)
  refine nil0 ?_
  repeat refine gwp_seq ?_
  refine cB (k1 := fun hb1 => ?_) (k0 := fun hb1 => ?_)
  · replace hb1 := hB.h {} hb1
    try rw [eqI] at hb1
    repeat refine gwp_seq ?_
    refine gwp_skip ?_
    refine cl [1, 2, 7] (k := ?_)
    repeat refine gwp_seq ?_
    refine gwp_block ?_
    repeat refine gwp_seq ?_
    obtain ⟨r, hr⟩ := getE (l := c.rs) (k := k) (by omega)
    have hkl := (List.getElem?_eq_some_iff.1 hr).1
    refine rd ?_
    refine d0 0 (k := ?_)
    refine d0 1 (k := ?_)
    refine d0 2 (k := ?_)
    refine d1 3 (hc := kWh1.h {}) (k := ?_)
    refine d0 4 (k := ?_)
    refine d0 5 (k := ?_)
    refine d0 6 (k := ?_)
    refine d0 7 (k := ?_)
    refine d0 8 (k := ?_)
    refine db0 9 31 (k1 := fun hb2 => ?_) (k0 := fun hb2 => ?_)
    · replace hb2 := hB.h {} hb2
      try rw [eqI] at hb2
      refine dw0 9 (k := ?_)
      refine dw0 10 (k := ?_)
      refine dw0 11 (k := ?_)
      refine dw1 12 (hc := kWh1.h {}) (k := ?_)
      refine dw0 13 (k := ?_)
      refine dw0 14 (k := ?_)
      refine dw0 15 (k := ?_)
      refine dw0 16 (k := ?_)
      refine dw0 17 (k := ?_)
      refine dpcw 18 (spec := r_holder c x k (by omega) (by omega)) (hent := ent51) (k := ?_)
      refine dw0 19 (k := ?_)
      refine d0 20 (k := ?_)
      refine dz 21 [0, 1, 0, 7, 15, 31, 0, 127, 255, 511, 1023, 511, 4095, 8191, 16383, 511, 511, 511, 229887, 524287, 1048575] (h := ?_)
      refine de 21 (h := ?_)
      repeat refine gwp_seq ?_
      refine cB (k1 := fun hb3 => ?_) (k0 := fun hb3 => ?_)
      · replace hb3 := hB.h {} hb3
        try rw [eqI] at hb3
        repeat refine gwp_seq ?_
        refine gwp_region ?_
        refine v0 (k := ?_)
        refine v0 (k := ?_)
        refine v0 (k := ?_)
        refine nil0 ?_
        repeat refine gwp_seq ?_
        refine gwp_ret ?_
        repeat (first | refine gthen_ret ?_ | refine gblock_ret ?_ | refine gnoGoto_ret ?_)
        refine fin_ret ?_
        refine fp2 (hR := ?_)
        first
        | (rw [brkV_first hf hr (by omega) (by omega)]; rfl)
        | (obtain rfl : k = c.rs.length := by omega
           rw [brkV_no hf]
           rfl)
      · replace hb3 := hB.h {} hb3
        try rw [eqI] at hb3
        repeat refine gwp_seq ?_
        refine gwp_skip ?_
        refine cl [1, 2, 7] (k := ?_)
        repeat refine gwp_seq ?_
        refine gwp_region ?_
        refine v0 (k := ?_)
        refine v1 (hc := kWh1.h {}) (k := ?_)
        refine v0 (k := ?_)
        refine nil0 ?_
        refine lend [1, 2, 7] (h := ?_) (hV := ?_) (n' := c.rs.length - (k + 1))
        · omega
        first
        | exact ⟨k + 1, by omega, brkB_step hf (brkB_f1 hr (by omega)), rfl, rfl⟩
        | exact ⟨k + 1, by omega, brkB_step hf (brkB_f2 hr (by omega)), rfl, rfl⟩
    · replace hb2 := hB.h {} hb2
      try rw [eqI] at hb2
      refine dx0 9 (k := ?_)
      refine dx0 10 (k := ?_)
      refine dx0 11 (k := ?_)
      refine dx0 12 (k := ?_)
      refine dx0 13 (k := ?_)
      refine dx0 14 (k := ?_)
      refine dx0 15 (k := ?_)
      refine dx0 16 (k := ?_)
      refine dx0 17 (k := ?_)
      refine dx0 18 (k := ?_)
      refine dx0 19 (k := ?_)
      refine d0 20 (k := ?_)
      refine dz 21 [0, 1, 0, 7, 15, 31, 0, 127, 255, 511, 1023, 511, 4095, 8191, 16383, 511, 511, 511, 229887, 524287, 1048575] (h := ?_)
      refine de 21 (h := ?_)
      repeat refine gwp_seq ?_
      refine cF (k := ?_)
      repeat refine gwp_seq ?_
      refine gwp_skip ?_
      refine cl [1, 2, 7] (k := ?_)
      repeat refine gwp_seq ?_
      refine gwp_region ?_
      refine v0 (k := ?_)
      refine v1 (hc := kWh1.h {}) (k := ?_)
      refine v0 (k := ?_)
      refine nil0 ?_
      refine lend [1, 2, 7] (h := ?_) (hV := ?_) (n' := c.rs.length - (k + 1))
      · omega
      first
      | exact ⟨k + 1, by omega, brkB_step hf (brkB_f1 hr (by omega)), rfl, rfl⟩
      | exact ⟨k + 1, by omega, brkB_step hf (brkB_f2 hr (by omega)), rfl, rfl⟩
  · replace hb1 := hB.h {} hb1
    try rw [eqI] at hb1
    repeat refine gwp_seq ?_
    refine gwp_exit ?_
    repeat (first | refine gthen_exit ?_ | refine gnoGoto_exit ?_ | refine gblock_here ?_ | refine gblock_out rfl ?_)
    refine cl [] (k := ?_)
    repeat refine gwp_seq ?_
    refine gwp_region ?_
    refine v0 (k := ?_)
    refine v0 (k := ?_)
    refine nil0 ?_
    repeat refine gwp_seq ?_
    refine gwp_ret ?_
    repeat (first | refine gthen_ret ?_ | refine gblock_ret ?_ | refine gnoGoto_ret ?_)
    refine fin_ret ?_
    refine fp2 (hR := ?_)
    first
    | (rw [brkV_first hf hr (by omega) (by omega)]; rfl)
    | (obtain rfl : k = c.rs.length := by omega
       rw [brkV_no hf]
       rfl)
theorem r_break_r (c : Ch) (hv : c.valid = true) (x : Int) (hq : inQ x c.pl = false) : PSpec Try.prog 18 [.agg [.int .i64 c.pl, .int .i64 c.ps, .list (c.kn.map pk), .list (c.rs.map pr), .int .i64 c.ms], .int .i64 x] (.ok (.tuple [.int .i64 0, .int .i64 2])) := by
  refine pspec_of Try.func18 (rfl : Try.f18.body = some _) rfl ?_
  intro E A C hN hL
  replace hN : C.N = 45 := hN
  simp only [Gh.num, List.map_cons, List.map_nil, Nat.reduceAdd]
  have hn := valid_num hv
  have hdt : ∀ (i : Decidable True), @decide True i = true := fun i => decide_eq_true trivial
  have hdf : ∀ (i : Decidable False), @decide False i = false := fun i => decide_eq_false id
  repeat refine gwp_seq ?_
  refine gwp_region ?_
  refine n1 120 false (hc := kWh1.h {}) (k := ?_)
  refine v0 (k := ?_)
  refine v0 (k := ?_)
  refine nil0 ?_
  refine cl [1, 2] (k := ?_)
  repeat refine gwp_seq ?_
  refine rd ?_
  refine d0 0 (k := ?_)
  refine d0 1 (k := ?_)
  refine d0 2 (k := ?_)
  refine dpc0 3 (spec := r_plateT c hv x hq) (hent := ent49) (k := ?_)
  refine dpc0 4 (spec := r_check_r c hv) (hent := ent48) (k := ?_)
  refine d0 5 (k := ?_)
  refine dz 6 [0, 0, 0, 6, 15, 31] (h := ?_)
  refine de 6 (h := ?_)
  refine cl [1, 2, 6] (k := ?_)
  repeat refine gwp_seq ?_
  refine gwp_region ?_
  refine v0 (k := ?_)
  refine v0 (k := ?_)
  refine rb 14 true (h := by (first | rfl | decide)) (k := ?_)
  refine nil0 ?_
  repeat refine gwp_seq ?_
  refine cT (k := ?_)
  repeat refine gwp_seq ?_
  refine gwp_region ?_
  refine v0 (k := ?_)
  refine v0 (k := ?_)
  refine v0 (k := ?_)
  refine nil0 ?_
  repeat refine gwp_seq ?_
  refine gwp_ret ?_
  repeat (first | refine gthen_ret ?_ | refine gblock_ret ?_ | refine gnoGoto_ret ?_)
  refine fin_ret ?_
  refine fp2 (hR := ?_)
  rfl
theorem r_break_f (c : Ch) (h1 : c.kn.length ≤ 1048576) (h2 : c.rs.length ≤ 1048576) (hv : c.valid = false) (x : Int) : PSpec Try.prog 18 [.agg [.int .i64 c.pl, .int .i64 c.ps, .list (c.kn.map pk), .list (c.rs.map pr), .int .i64 c.ms], .int .i64 x] (.ok (.tuple [.int .i64 0, .int .i64 1])) := by
  refine pspec_of Try.func18 (rfl : Try.f18.body = some _) rfl ?_
  intro E A C hN hL
  replace hN : C.N = 45 := hN
  simp only [Gh.num, List.map_cons, List.map_nil, Nat.reduceAdd]
  have hdt : ∀ (i : Decidable True), @decide True i = true := fun i => decide_eq_true trivial
  have hdf : ∀ (i : Decidable False), @decide False i = false := fun i => decide_eq_false id
  repeat refine gwp_seq ?_
  refine gwp_region ?_
  refine n1 120 false (hc := kWh1.h {}) (k := ?_)
  refine v0 (k := ?_)
  refine v0 (k := ?_)
  refine nil0 ?_
  refine cl [1, 2] (k := ?_)
  repeat refine gwp_seq ?_
  refine rd ?_
  refine d0 0 (k := ?_)
  refine d0 1 (k := ?_)
  refine d0 2 (k := ?_)
  refine dpc0 3 (spec := r_plateW c x) (hent := ent49) (k := ?_)
  refine dpc0 4 (spec := r_check_f c h1 h2 hv _) (hent := ent48) (k := ?_)
  refine d0 5 (k := ?_)
  refine dz 6 [0, 0, 0, 6, 15, 31] (h := ?_)
  refine de 6 (h := ?_)
  refine cl [1, 2, 6] (k := ?_)
  repeat refine gwp_seq ?_
  refine gwp_region ?_
  refine v0 (k := ?_)
  refine v0 (k := ?_)
  refine rb 14 true (h := by (first | rfl | decide)) (k := ?_)
  refine nil0 ?_
  repeat refine gwp_seq ?_
  refine cT (k := ?_)
  repeat refine gwp_seq ?_
  refine gwp_region ?_
  refine v0 (k := ?_)
  refine v0 (k := ?_)
  refine v0 (k := ?_)
  refine nil0 ?_
  repeat refine gwp_seq ?_
  refine gwp_ret ?_
  repeat (first | refine gthen_ret ?_ | refine gblock_ret ?_ | refine gnoGoto_ret ?_)
  refine fin_ret ?_
  refine fp2 (hR := ?_)
  rfl
theorem i64_s (m : Nat) : ((m + 1 : Nat) : Int) - 1 = (m : Nat) := by omega
theorem ent61 : Enters Try.prog 61 := Enters.mk Try.func61 (by kernel_rfl) rfl
theorem r_way_z (c : Ch) (hv : c.valid = true) (b : Nat) (a : Nat) : PSpec Try.prog 61 [.agg [.int .i64 c.pl, .int .i64 c.ps, .list (c.kn.map pk), .list (c.rs.map pr), .int .i64 c.ms], .int .i64 (a : Nat), .int .i64 (b : Nat), .int .i64 ((0 : Nat) : Int)] (.ok (.tuple [.list (intL (wayR c.kn c.ps.toNat b 0 a).1), .bool (wayR c.kn c.ps.toNat b 0 a).2])) := by
  refine pspec_of Try.func61 (rfl : Try.f61.body = some _) rfl ?_
  intro E A C hN hL
  replace hN : C.N = 44 := hN
  simp only [Gh.num, List.map_cons, List.map_nil, Nat.reduceAdd]
  have hn := valid_num hv
  have hdt : ∀ (i : Decidable True), @decide True i = true := fun i => decide_eq_true trivial
  have hdf : ∀ (i : Decidable False), @decide False i = false := fun i => decide_eq_false id
  repeat refine gwp_seq ?_
  refine gwp_region ?_
  refine n1 140 false (hc := kWh1.h {}) (k := ?_)
  refine v0 (k := ?_)
  refine v0 (k := ?_)
  refine nil0 ?_
  refine cl [1, 2, 3, 4] (k := ?_)
  repeat refine gwp_seq ?_
  refine gwp_region ?_
  refine v0 (k := ?_)
  refine v0 (k := ?_)
  refine rb 14 true (h := by (first | rfl | decide)) (k := ?_)
  refine nil0 ?_
  repeat refine gwp_seq ?_
  refine cT (k := ?_)
  repeat refine gwp_seq ?_
  refine gwp_region ?_
  refine v0 (k := ?_)
  refine n1 260 false (hc := kWh1.h {}) (k := ?_)
  refine v0 (k := ?_)
  refine v0 (k := ?_)
  refine v0 (k := ?_)
  refine v0 (k := ?_)
  refine v0 (k := ?_)
  refine nil0 ?_
  repeat refine gwp_seq ?_
  refine gwp_ret ?_
  repeat (first | refine gthen_ret ?_ | refine gblock_ret ?_ | refine gnoGoto_ret ?_)
  refine fin_ret ?_
  refine fp2 (hR := ?_)
  have hde := dec_cast a b
  simp only [wayR, hde]
  rfl
theorem r_way_s (c : Ch) (hv : c.valid = true) (b : Nat) (m : Nat) (hm : m ≤ 8) (a : Nat) (ih : ∀ k : Nat, PSpec Try.prog 61 [.agg [.int .i64 c.pl, .int .i64 c.ps, .list (c.kn.map pk), .list (c.rs.map pr), .int .i64 c.ms], .int .i64 (k : Nat), .int .i64 (b : Nat), .int .i64 (m : Nat)] (.ok (.tuple [.list (intL (wayR c.kn c.ps.toNat b m k).1), .bool (wayR c.kn c.ps.toNat b m k).2]))) : PSpec Try.prog 61 [.agg [.int .i64 c.pl, .int .i64 c.ps, .list (c.kn.map pk), .list (c.rs.map pr), .int .i64 c.ms], .int .i64 (a : Nat), .int .i64 (b : Nat), .int .i64 ((m + 1 : Nat) : Int)] (.ok (.tuple [.list (intL (wayR c.kn c.ps.toNat b (m + 1) a).1), .bool (wayR c.kn c.ps.toNat b (m + 1) a).2])) := by
  refine pspec_of Try.func61 (rfl : Try.f61.body = some _) rfl ?_
  intro E A C hN hL
  replace hN : C.N = 44 := hN
  simp only [Gh.num, List.map_cons, List.map_nil, Nat.reduceAdd]
  have hn := valid_num hv
  have hdt : ∀ (i : Decidable True), @decide True i = true := fun i => decide_eq_true trivial
  have hdf : ∀ (i : Decidable False), @decide False i = false := fun i => decide_eq_false id
  have hms := i64_s m
  repeat refine gwp_seq ?_
  refine gwp_region ?_
  refine n1 140 false (hc := kWh2.h {}) (k := ?_)
  refine v0 (k := ?_)
  refine v0 (k := ?_)
  refine nil0 ?_
  refine cl [1, 2, 3, 4] (k := ?_)
  repeat refine gwp_seq ?_
  refine gwp_region ?_
  refine v0 (k := ?_)
  refine v0 (k := ?_)
  refine rb 14 false (h := by (exact decide_eq_false (by omega))) (k := ?_)
  refine nil0 ?_
  repeat refine gwp_seq ?_
  refine cF (k := ?_)
  repeat refine gwp_seq ?_
  refine gwp_skip ?_
  refine cl [1, 2, 3, 4] (k := ?_)
  repeat refine gwp_seq ?_
  refine gwp_region ?_
  refine v0 (k := ?_)
  refine nil0 ?_
  refine cl [1, 2, 3, 4, 10] (k := ?_)
  repeat refine gwp_seq ?_
  refine gwp_block ?_
  repeat refine gwp_seq ?_
  refine gc_loop (fun mz σ => ∃ k : Nat, ((k : Int) ≤ c.ps) ∧ (∀ i, i < k → (knowI c.kn a i && (wayR c.kn c.ps.toNat b m i).2) = false) ∧ mz = c.ps.toNat - k ∧ σ = (sg [(1, .p (.int .i64 (a : Nat))), (2, .p (.int .i64 (b : Nat))), (3, .p (.int .i64 ((m + 1 : Nat) : Int))), (4, .ref 140 0), (10, .p (.int .i64 (k : Nat)))] [(140, .cells [.p (.int .i64 c.pl), .p (.int .i64 c.ps), .p (.list (c.kn.map pk)), .p (.list (c.rs.map pr)), .p (.int .i64 c.ms)] 0)] A [] : Sg E)) ?_ (fun mz σ hI => ?_)
  · refine lbeg [1, 2, 3, 4, 10] (hV := ?_)
    exact ⟨_, 0, by omega, fun i hi => by omega, rfl, rfl⟩
  obtain ⟨k, hk, hf, hnn, rfl⟩ := hI
  repeat refine gwp_seq ?_
  refine gwp_region ?_
  refine v0 (k := ?_)
  refine v0 (k := ?_)
  refine v0 (k := ?_)
  refine v0 (k := ?_)
  refine nil0 ?_
  repeat refine gwp_seq ?_
  refine cB (k1 := fun hb1 => ?_) (k0 := fun hb1 => ?_)
  · replace hb1 := hB.h {} hb1
    repeat refine gwp_seq ?_
    refine gwp_skip ?_
    refine cl [1, 2, 3, 4, 10] (k := ?_)
    repeat refine gwp_seq ?_
    refine gwp_block ?_
    repeat refine gwp_seq ?_
    refine gwp_region ?_
    refine v0 (k := ?_)
    refine v0 (k := ?_)
    refine v0 (k := ?_)
    refine pc0 (spec := r_know c (by omega) a k) (hent := ent101) (k := ?_)
    refine nil0 ?_
    repeat refine gwp_seq ?_
    refine cB (k1 := fun hb2 => ?_) (k0 := fun hb2 => ?_)
    · replace hb2 := hB.h {} hb2
      repeat refine gwp_seq ?_
      refine gwp_region ?_
      refine v0 (k := ?_)
      refine v0 (k := ?_)
      refine v0 (k := ?_)
      refine v0 (k := ?_)
      refine v1 (hc := kWh2.h {}) (k := ?_)
      refine pc0 (spec := ih k) (hent := ent61) (k := ?_)
      refine v0 (k := ?_)
      refine v0 (k := ?_)
      refine v0 (k := ?_)
      refine v0 (k := ?_)
      refine v0 (k := ?_)
      refine nil0 ?_
      refine cl [1, 2, 3, 4, 10, 11, 12] (k := ?_)
      repeat refine gwp_seq ?_
      refine gwp_region ?_
      refine v0 (k := ?_)
      refine nil0 ?_
      repeat refine gwp_seq ?_
      refine cB (k1 := fun hb3 => ?_) (k0 := fun hb3 => ?_)
      · replace hb3 := hB.h {} hb3
        repeat refine gwp_seq ?_
        have hwl := wayR_len (kn := c.kn) (P := c.ps.toNat) (dst := b) m k
        have hil := intL_len (wayR c.kn c.ps.toNat b m k).1
        have hsz := intL_size (wayR c.kn c.ps.toNat b m k).1
        refine gwp_region ?_
        refine v0 (k := ?_)
        refine n1 510 false (hc := kWh2.h {}) (k := ?_)
        refine v0 (k := ?_)
        refine n1 530 false (hc := kWh2.h {}) (k := ?_)
        refine v0 (k := ?_)
        refine v0 (k := ?_)
        refine nil0 ?_
        repeat refine gwp_seq ?_
        refine gwp_ret ?_
        repeat (first | refine gthen_ret ?_ | refine gblock_ret ?_ | refine gnoGoto_ret ?_)
        refine fin_ret ?_
        refine fp2 (hR := ?_) (hd' := by first | exact True.intro | (simp [intL_len]; done) | (simp [intL_len]; omega) | simp)
        first
        | (rw [wayR_some (show k < c.ps.toNat by omega) hf (by assumption) (by assumption)]; rfl)
        | (rw [wayR_none (fun i hi => hf i (by omega))]; rfl)
      · replace hb3 := hB.h {} hb3
        repeat refine gwp_seq ?_
        refine gwp_skip ?_
        refine cl [1, 2, 3, 4, 10] (k := ?_)
        repeat refine gwp_seq ?_
        refine gwp_region ?_
        refine v0 (k := ?_)
        refine v1 (hc := kWh2.h {}) (k := ?_)
        refine v0 (k := ?_)
        refine nil0 ?_
        refine lend [1, 2, 3, 4, 10] (h := ?_) (hV := ?_) (n' := c.ps.toNat - (k + 1))
        · omega
        first
        | exact ⟨k + 1, by omega, fun i hi => by
              by_cases e : i = k
              · subst e; simp only [*, Bool.and_false, Bool.false_and]
              · exact hf i (by omega), rfl, rfl⟩
    · replace hb2 := hB.h {} hb2
      repeat refine gwp_seq ?_
      refine gwp_skip ?_
      refine cl [1, 2, 3, 4, 10] (k := ?_)
      repeat refine gwp_seq ?_
      refine gwp_region ?_
      refine v0 (k := ?_)
      refine v1 (hc := kWh2.h {}) (k := ?_)
      refine v0 (k := ?_)
      refine nil0 ?_
      refine lend [1, 2, 3, 4, 10] (h := ?_) (hV := ?_) (n' := c.ps.toNat - (k + 1))
      · omega
      first
      | exact ⟨k + 1, by omega, fun i hi => by
            by_cases e : i = k
            · subst e; simp only [*, Bool.and_false, Bool.false_and]
            · exact hf i (by omega), rfl, rfl⟩
  · replace hb1 := hB.h {} hb1
    repeat refine gwp_seq ?_
    refine gwp_exit ?_
    repeat (first | refine gthen_exit ?_ | refine gnoGoto_exit ?_ | refine gblock_here ?_ | refine gblock_out rfl ?_)
    refine cl [] (k := ?_)
    repeat refine gwp_seq ?_
    refine gwp_region ?_
    refine v0 (k := ?_)
    refine v0 (k := ?_)
    refine nil0 ?_
    repeat refine gwp_seq ?_
    refine gwp_ret ?_
    repeat (first | refine gthen_ret ?_ | refine gblock_ret ?_ | refine gnoGoto_ret ?_)
    refine fin_ret ?_
    refine fp2 (hR := ?_) (hd' := by first | exact True.intro | (simp [intL_len]; done) | (simp [intL_len]; omega) | simp)
    first
    | (rw [wayR_some (show k < c.ps.toNat by omega) hf (by assumption) (by assumption)]; rfl)
    | (rw [wayR_none (fun i hi => hf i (by omega))]; rfl)
theorem r_way (c : Ch) (hv : c.valid = true) (b : Nat) : ∀ (n : Nat), n ≤ 9 → ∀ a : Nat, PSpec Try.prog 61 [.agg [.int .i64 c.pl, .int .i64 c.ps, .list (c.kn.map pk), .list (c.rs.map pr), .int .i64 c.ms], .int .i64 (a : Nat), .int .i64 (b : Nat), .int .i64 (n : Nat)] (.ok (.tuple [.list (intL (wayR c.kn c.ps.toNat b n a).1), .bool (wayR c.kn c.ps.toNat b n a).2]))
  | 0, _, a => r_way_z c hv b a
  | m + 1, h, a => r_way_s c hv b m (by omega) a fun k => r_way c hv b m (by omega) k
end Go.Proofs.Ytagdholenfkeaaa

/- The document: Path. -/
namespace Go.Proofs.Ytagdholenfkeaaa
open Go.Gh
set_option maxRecDepth 100000
set_option maxHeartbeats 4000000
structure kWj1 (c : Prop) : Prop where
  h : c := by (first | exact True.intro | (simp only [inI]; omega) | (simp [P.size, pr, pk, all_int, allOne_p, goods_p, allOne, goods, good, G.one, P.one, P.cells] <;> first | omega | assumption | simp_all))
theorem r_holderN (c : Ch) (p : Int) (n a : Nat) (hn : n ≤ c.rs.length) (hl : c.rs.length ≤ 12) (ha : holN p c.rs n = a) : PSpec Try.prog 51 [.agg [.int .i64 c.pl, .int .i64 c.ps, .list (c.kn.map pk), .list (c.rs.map pr), .int .i64 c.ms], .int .i64 p, .int .i64 (n : Nat)] (.ok (.int .i64 (a : Nat))) := by
  rw [← ha]; exact r_holder c p n hn hl
theorem path_found {c : Ch} (hv : c.valid = true) {a b k : Nat} (ha : a < c.ps.toNat) (hk : k < c.ps.toNat) (hf : ∀ i, i < k → (wayR c.kn c.ps.toNat b i a).2 = false) (hw : (wayR c.kn c.ps.toNat b k a).2 = true) : (if D (kE c.kn) a b < 1048576 then (pathL c.kn (D (kE c.kn)) c.ps.toNat b (D (kE c.kn) a b).toNat a, 0) else ([], 4) : List Nat × Int) = ((wayR c.kn c.ps.toNat b k a).1, 0) := by
  have hn := valid_num hv
  have he := kE_in hv
  have he8 : ∀ a b, kE c.kn a b = true → a < 8 ∧ b < 8 := fun a b x => by have := he a b x; omega
  have h1 := D_eq he8 ((wayR_iff he k a).1 hw) (fun m hm hwm => by have := hf m hm; rw [(wayR_iff he m a).2 hwm] at this; cases this) (by omega)
  have h2 := wayR_pathL he (by omega) k a ha (by simp only [NEV]; omega) h1
  rw [if_pos (by omega), h2, h1]; rfl
theorem path_lost {c : Ch} (hv : c.valid = true) {a b : Nat} (ha : a < c.ps.toNat) (hf : ∀ i, i < c.ps.toNat → (wayR c.kn c.ps.toNat b i a).2 = false) : (if D (kE c.kn) a b < 1048576 then (pathL c.kn (D (kE c.kn)) c.ps.toNat b (D (kE c.kn) a b).toNat a, 0) else ([], 4) : List Nat × Int) = ([], 4) := by
  have hn := valid_num hv
  have he := kE_in hv
  rw [if_neg]
  intro hl
  obtain ⟨n, hn2, hw⟩ := D_sound (e := kE c.kn) (i := a) (k := b) (by simp only [NEV]; exact hl)
  have := D_lt (P := c.ps.toNat) (by omega) he ha (by simp only [NEV]; exact hl)
  have h := hf n (by omega)
  rw [(wayR_iff he n a).2 hw] at h; cases h
theorem hol_in2 {c : Ch} (hv : c.valid = true) {p : Int} : ∀ k, 0 ≤ holN p c.rs k ∧ holN p c.rs k < c.ps
  | 0 => by have := valid_num hv; simp only [holN]; omega
  | k + 1 => by
    simp only [holN]
    split
    · rename_i r hr
      split
      · have := valid_rs hv (List.mem_of_getElem? hr); omega
      · exact hol_in2 hv k
    · exact hol_in2 hv k
theorem ent20 : Enters Try.prog 20 := Enters.mk Try.func20 (by kernel_rfl) rfl
theorem r_path_t (c : Ch) (hv : c.valid = true) (x : Int) (n a b : Nat) (r : Rc) (hr : c.rs[n]? = some r) (ha : holN x c.rs n = a) (hb : r.f = b) (hp : r.p = x) (haP : a < c.ps.toNat) (hqi : inQ x c.pl = true) : PSpec Try.prog 20 [.agg [.int .i64 c.pl, .int .i64 c.ps, .list (c.kn.map pk), .list (c.rs.map pr), .int .i64 c.ms], .int .i64 x, .int .i64 (n : Nat)] (.ok (.tuple [.list (intL (if D (kE c.kn) a b < 1048576 then (pathL c.kn (D (kE c.kn)) c.ps.toNat b (D (kE c.kn) a b).toNat a, 0) else ([], 4) : List Nat × Int).1), .int .i64 (if D (kE c.kn) a b < 1048576 then (pathL c.kn (D (kE c.kn)) c.ps.toNat b (D (kE c.kn) a b).toNat a, 0) else ([], 4) : List Nat × Int).2])) := by
  refine pspec_of Try.func20 (rfl : Try.f20.body = some _) rfl ?_
  intro E A C hN hL
  replace hN : C.N = 62 := hN
  simp only [Gh.num, List.map_cons, List.map_nil, Nat.reduceAdd]
  have hn := valid_num hv
  have hdt : ∀ (i : Decidable True), @decide True i = true := fun i => decide_eq_true trivial
  have hdf : ∀ (i : Decidable False), @decide False i = false := fun i => decide_eq_false id
  have hpk : ∀ k : Kw, pk k = P.agg [.int .i64 k.a, .int .i64 k.b] := fun _ => rfl
  have hpr : ∀ r : Rc, pr r = P.agg [.int .i64 r.p, .int .i64 r.f, .int .i64 r.t] := fun _ => rfl
  have hnl := (List.getElem?_eq_some_iff.1 hr).1
  obtain ⟨rp, rf, rt⟩ := r
  simp only at hb hp
  subst hb
  have hq2 : decide (0 ≤ ((n : Nat) : Int)) = true := decide_eq_true (by omega)
  have hq3 : decide (((n : Nat) : Int) ≤ (c.rs.length : Int) - 1) = true := decide_eq_true (by omega)
  repeat refine gwp_seq ?_
  refine gwp_region ?_
  refine n1 130 false (hc := kWj1.h {}) (k := ?_)
  refine v0 (k := ?_)
  refine v0 (k := ?_)
  refine nil0 ?_
  refine cl [1, 2, 3] (k := ?_)
  repeat refine gwp_seq ?_
  refine rd ?_
  refine d0 0 (k := ?_)
  refine d0 1 (k := ?_)
  refine d0 2 (k := ?_)
  refine dpc0 3 (spec := r_plateT c hv x hqi) (hent := ent49) (k := ?_)
  refine d0 4 (k := ?_)
  refine dw0 5 (k := ?_)
  refine dw0 6 (k := ?_)
  refine dw0 7 (k := ?_)
  refine dw0 8 (k := ?_)
  refine dw1 9 (hc := kWj1.h {}) (k := ?_)
  refine dpcw 10 (spec := s_in _ _ _) (hent := ent50) (k := ?_)
  refine d0 11 (k := ?_)
  refine d0 12 (k := ?_)
  refine dw0 13 (k := ?_)
  refine dw0 14 (k := ?_)
  refine dw0 15 (k := ?_)
  refine dw1 16 (hc := kWj1.h {}) (k := ?_)
  refine dw0 17 (k := ?_)
  refine dw0 18 (k := ?_)
  refine dw0 19 (k := ?_)
  refine dw0 20 (k := ?_)
  refine d0 21 (k := ?_)
  refine dpc0 22 (spec := r_check_t c hv) (hent := ent48) (k := ?_)
  refine d0 23 (k := ?_)
  refine dz 24 [0, 0, 0, 6, 14, 30, 30, 94, 222, 478, 1022, 2046, 4094, 8190, 16382, 8190, 65534, 131070, 262142, 8190, 1048574, 2097150, 4194303, 8388607] (h := ?_)
  refine de 24 (h := ?_)
  refine cl [1, 2, 3, 8] (k := ?_)
  repeat refine gwp_seq ?_
  refine gwp_region ?_
  refine v0 (k := ?_)
  refine v0 (k := ?_)
  refine rb 36 false (h := by (first | rfl | decide)) (k := ?_)
  refine nil0 ?_
  repeat refine gwp_seq ?_
  refine cF (k := ?_)
  repeat refine gwp_seq ?_
  refine gwp_skip ?_
  refine cl [1, 2, 3] (k := ?_)
  repeat refine gwp_seq ?_
  refine gwp_region ?_
  refine v0 (k := ?_)
  refine nil0 ?_
  refine cl [1, 2, 3, 9] (k := ?_)
  repeat refine gwp_seq ?_
  refine gwp_block ?_
  repeat refine gwp_seq ?_
  refine gc_loop (fun mz σ => ∃ k : Nat, ((k : Int) ≤ c.ps) ∧ (∀ i, i < k → (wayR c.kn c.ps.toNat b i a).2 = false) ∧ mz = c.ps.toNat - k ∧ σ = (sg [(1, .p (.int .i64 x)), (2, .p (.int .i64 (n : Nat))), (3, .ref 130 0), (9, .p (.int .i64 (k : Nat)))] [(130, .cells [.p (.int .i64 c.pl), .p (.int .i64 c.ps), .p (.list (c.kn.map pk)), .p (.list (c.rs.map pr)), .p (.int .i64 c.ms)] 0)] A [] : Sg E)) ?_ (fun mz σ hI => ?_)
  · refine lbeg [1, 2, 3, 9] (hV := ?_)
    exact ⟨_, 0, by omega, fun i hi => by omega, rfl, rfl⟩
  obtain ⟨k, hk, hf, hnn, rfl⟩ := hI
  repeat refine gwp_seq ?_
  refine gwp_region ?_
  refine v0 (k := ?_)
  refine v0 (k := ?_)
  refine v0 (k := ?_)
  refine v0 (k := ?_)
  refine nil0 ?_
  repeat refine gwp_seq ?_
  refine cB (k1 := fun hb1 => ?_) (k0 := fun hb1 => ?_)
  · replace hb1 := hB.h {} hb1
    repeat refine gwp_seq ?_
    refine gwp_skip ?_
    refine cl [1, 2, 3, 9] (k := ?_)
    repeat refine gwp_seq ?_
    refine gwp_block ?_
    repeat refine gwp_seq ?_
    refine rd ?_
    refine d0 0 (k := ?_)
    refine d0 1 (k := ?_)
    refine d0 2 (k := ?_)
    refine d0 3 (k := ?_)
    refine dpc0 4 (spec := r_holderN c x n a (by omega) (by omega) ha) (hent := ent51) (k := ?_)
    refine d0 5 (k := ?_)
    refine d0 6 (k := ?_)
    refine d0 7 (k := ?_)
    refine d1 8 (hc := kWj1.h {}) (k := ?_)
    refine d0 9 (k := ?_)
    refine d0 10 (k := ?_)
    refine d0 11 (k := ?_)
    refine dpc0 12 (spec := r_way c hv b k (by omega) a) (hent := ent61) (k := ?_)
    refine d0 13 (k := ?_)
    refine d0 14 (k := ?_)
    refine d0 15 (k := ?_)
    refine d0 16 (k := ?_)
    refine d0 17 (k := ?_)
    refine dz 18 [0, 0, 0, 0, 14, 0, 32, 0, 224, 480, 992, 0, 4095, 8191, 16383, 16383, 32767, 131071] (h := ?_)
    refine de 18 (h := ?_)
    refine cl [1, 2, 3, 9, 10, 11] (k := ?_)
    repeat refine gwp_seq ?_
    refine gwp_region ?_
    refine v0 (k := ?_)
    refine nil0 ?_
    repeat refine gwp_seq ?_
    refine cB (k1 := fun hb2 => ?_) (k0 := fun hb2 => ?_)
    · replace hb2 := hB.h {} hb2
      repeat refine gwp_seq ?_
      refine gwp_region ?_
      refine v0 (k := ?_)
      refine v0 (k := ?_)
      refine v0 (k := ?_)
      refine nil0 ?_
      repeat refine gwp_seq ?_
      refine gwp_ret ?_
      repeat (first | refine gthen_ret ?_ | refine gblock_ret ?_ | refine gnoGoto_ret ?_)
      refine fin_ret ?_
      refine fp2 (hR := ?_)
      first
      | (rw [path_found hv haP (by omega) hf (by assumption)]; rfl)
      | (rw [path_lost hv haP (fun i hi => hf i (by omega))]; rfl)
    · replace hb2 := hB.h {} hb2
      repeat refine gwp_seq ?_
      refine gwp_skip ?_
      refine cl [1, 2, 3, 9] (k := ?_)
      repeat refine gwp_seq ?_
      refine gwp_region ?_
      refine v0 (k := ?_)
      refine v1 (hc := kWj1.h {}) (k := ?_)
      refine v0 (k := ?_)
      refine nil0 ?_
      refine lend [1, 2, 3, 9] (h := ?_) (hV := ?_) (n' := c.ps.toNat - (k + 1))
      · omega
      exact ⟨k + 1, by omega, fun i hi => by
          by_cases e : i = k
          · subst e; assumption
          · exact hf i (by omega), rfl, rfl⟩
  · replace hb1 := hB.h {} hb1
    repeat refine gwp_seq ?_
    refine gwp_exit ?_
    repeat (first | refine gthen_exit ?_ | refine gnoGoto_exit ?_ | refine gblock_here ?_ | refine gblock_out rfl ?_)
    refine cl [] (k := ?_)
    repeat refine gwp_seq ?_
    refine gwp_region ?_
    refine v0 (k := ?_)
    refine v0 (k := ?_)
    refine nil0 ?_
    repeat refine gwp_seq ?_
    refine gwp_ret ?_
    repeat (first | refine gthen_ret ?_ | refine gblock_ret ?_ | refine gnoGoto_ret ?_)
    refine fin_ret ?_
    refine fp2 (hR := ?_)
    first
    | (rw [path_found hv haP (by omega) hf (by assumption)]; rfl)
    | (rw [path_lost hv haP (fun i hi => hf i (by omega))]; rfl)
theorem r_path_r (c : Ch) (hv : c.valid = true) (x w : Int) (hq : pathQ c x w = false) : PSpec Try.prog 20 [.agg [.int .i64 c.pl, .int .i64 c.ps, .list (c.kn.map pk), .list (c.rs.map pr), .int .i64 c.ms], .int .i64 x, .int .i64 w] (.ok (.tuple [.list [], .int .i64 2])) := by
  refine pspec_of Try.func20 (rfl : Try.f20.body = some _) rfl ?_
  intro E A C hN hL
  replace hN : C.N = 62 := hN
  simp only [Gh.num, List.map_cons, List.map_nil, Nat.reduceAdd]
  have hn := valid_num hv
  have hdt : ∀ (i : Decidable True), @decide True i = true := fun i => decide_eq_true trivial
  have hdf : ∀ (i : Decidable False), @decide False i = false := fun i => decide_eq_false id
  have hpk : ∀ k : Kw, pk k = P.agg [.int .i64 k.a, .int .i64 k.b] := fun _ => rfl
  have hpr : ∀ r : Rc, pr r = P.agg [.int .i64 r.p, .int .i64 r.f, .int .i64 r.t] := fun _ => rfl
  have hiw := inW_eq (m := c.pl) (by omega) x
  repeat refine gwp_seq ?_
  refine gwp_region ?_
  refine n1 130 false (hc := kWj1.h {}) (k := ?_)
  refine v0 (k := ?_)
  refine v0 (k := ?_)
  refine nil0 ?_
  refine cl [1, 2, 3] (k := ?_)
  repeat refine gwp_seq ?_
  rcases bb3 (inQ x c.pl) (decide (0 ≤ w) && decide (w ≤ (c.rs.length : Int) - 1)) with hq1 | ⟨hq1, hq2⟩ | ⟨hq1, hq2⟩
  · repeat refine gwp_seq ?_
    refine rd ?_
    refine d0 0 (k := ?_)
    refine d0 1 (k := ?_)
    refine d0 2 (k := ?_)
    refine dpc0 3 (spec := r_plateT c hv x hq1) (hent := ent49) (k := ?_)
    refine d0 4 (k := ?_)
    refine dx0 5 (k := ?_)
    refine dx0 6 (k := ?_)
    refine dx0 7 (k := ?_)
    refine dx0 8 (k := ?_)
    refine dx0 9 (k := ?_)
    refine dx0 10 (k := ?_)
    refine d0 11 (k := ?_)
    refine d0 12 (k := ?_)
    refine dx0 13 (k := ?_)
    refine dx0 14 (k := ?_)
    refine dx0 15 (k := ?_)
    refine dx0 16 (k := ?_)
    refine dx0 17 (k := ?_)
    refine dx0 18 (k := ?_)
    refine dx0 19 (k := ?_)
    refine dx0 20 (k := ?_)
    refine d0 21 (k := ?_)
    refine dpc0 22 (spec := r_check_r c hv) (hent := ent48) (k := ?_)
    refine d0 23 (k := ?_)
    refine dz 24 [0, 0, 0, 6, 14, 30, 30, 94, 222, 478, 1022, 2046, 4094, 8190, 16382, 8190, 65534, 131070, 262142, 8190, 1048574, 2097150, 4194303, 8388607] (h := ?_)
    refine de 24 (h := ?_)
    refine cl [1, 2, 3, 8] (k := ?_)
    repeat refine gwp_seq ?_
    refine gwp_region ?_
    refine v0 (k := ?_)
    refine v0 (k := ?_)
    refine rb 36 true (h := by (first | rfl | decide)) (k := ?_)
    refine nil0 ?_
    repeat refine gwp_seq ?_
    refine cT (k := ?_)
    repeat refine gwp_seq ?_
    refine gwp_region ?_
    refine v0 (k := ?_)
    refine v0 (k := ?_)
    refine v0 (k := ?_)
    refine nil0 ?_
    repeat refine gwp_seq ?_
    refine gwp_ret ?_
    repeat (first | refine gthen_ret ?_ | refine gblock_ret ?_ | refine gnoGoto_ret ?_)
    refine fin_ret ?_
    refine fp2 (hR := ?_)
    rfl
  · repeat refine gwp_seq ?_
    refine rd ?_
    refine d0 0 (k := ?_)
    refine d0 1 (k := ?_)
    refine d0 2 (k := ?_)
    refine dpc0 3 (spec := r_plateT c hv x hq1) (hent := ent49) (k := ?_)
    refine d0 4 (k := ?_)
    refine dw0 5 (k := ?_)
    refine dw0 6 (k := ?_)
    refine dw0 7 (k := ?_)
    refine dw0 8 (k := ?_)
    refine dw1 9 (hc := kWj1.h {}) (k := ?_)
    refine dpcw 10 (spec := s_in _ _ _) (hent := ent50) (k := ?_)
    refine d0 11 (k := ?_)
    refine d0 12 (k := ?_)
    refine dx0 13 (k := ?_)
    refine dx0 14 (k := ?_)
    refine dx0 15 (k := ?_)
    refine dx0 16 (k := ?_)
    refine dx0 17 (k := ?_)
    refine dx0 18 (k := ?_)
    refine dx0 19 (k := ?_)
    refine dx0 20 (k := ?_)
    refine d0 21 (k := ?_)
    refine dpc0 22 (spec := r_check_r c hv) (hent := ent48) (k := ?_)
    refine d0 23 (k := ?_)
    refine dz 24 [0, 0, 0, 6, 14, 30, 30, 94, 222, 478, 1022, 2046, 4094, 8190, 16382, 8190, 65534, 131070, 262142, 8190, 1048574, 2097150, 4194303, 8388607] (h := ?_)
    refine de 24 (h := ?_)
    refine cl [1, 2, 3, 8] (k := ?_)
    repeat refine gwp_seq ?_
    refine gwp_region ?_
    refine v0 (k := ?_)
    refine v0 (k := ?_)
    refine rb 36 true (h := by (first | rfl | decide)) (k := ?_)
    refine nil0 ?_
    repeat refine gwp_seq ?_
    refine cT (k := ?_)
    repeat refine gwp_seq ?_
    refine gwp_region ?_
    refine v0 (k := ?_)
    refine v0 (k := ?_)
    refine v0 (k := ?_)
    refine nil0 ?_
    repeat refine gwp_seq ?_
    refine gwp_ret ?_
    repeat (first | refine gthen_ret ?_ | refine gblock_ret ?_ | refine gnoGoto_ret ?_)
    refine fin_ret ?_
    refine fp2 (hR := ?_)
    rfl
  · have hq3 := hq2
    simp only [Bool.and_eq_true, decide_eq_true_eq] at hq3
    obtain ⟨n, rfl⟩ : ∃ n : Nat, w = n := ⟨w.toNat, by omega⟩
    obtain ⟨r, hr⟩ := getE (l := c.rs) (k := n) (by omega)
    have hnl := (List.getElem?_eq_some_iff.1 hr).1
    clear hq3
    have hrp : ¬ r.p = x := fun e => by simp only [pathQ, hq1, hq2, Int.toNat_natCast, hr, e, decide_true, Bool.and_true] at hq; cases hq
    repeat refine gwp_seq ?_
    refine rd ?_
    refine d0 0 (k := ?_)
    refine d0 1 (k := ?_)
    refine d0 2 (k := ?_)
    refine dpc0 3 (spec := r_plateT c hv x hq1) (hent := ent49) (k := ?_)
    refine d0 4 (k := ?_)
    refine dw0 5 (k := ?_)
    refine dw0 6 (k := ?_)
    refine dw0 7 (k := ?_)
    refine dw0 8 (k := ?_)
    refine dw1 9 (hc := kWj1.h {}) (k := ?_)
    refine dpcw 10 (spec := s_in _ _ _) (hent := ent50) (k := ?_)
    refine d0 11 (k := ?_)
    refine d0 12 (k := ?_)
    refine dw0 13 (k := ?_)
    refine dw0 14 (k := ?_)
    refine dw0 15 (k := ?_)
    refine dw1 16 (hc := kWj1.h {}) (k := ?_)
    refine dw0 17 (k := ?_)
    refine dw0 18 (k := ?_)
    refine dw0 19 (k := ?_)
    refine dw0 20 (k := ?_)
    refine d0 21 (k := ?_)
    refine dpc0 22 (spec := r_check_r c hv) (hent := ent48) (k := ?_)
    refine d0 23 (k := ?_)
    refine dz 24 [0, 0, 0, 6, 14, 30, 30, 94, 222, 478, 1022, 2046, 4094, 8190, 16382, 8190, 65534, 131070, 262142, 8190, 1048574, 2097150, 4194303, 8388607] (h := ?_)
    refine de 24 (h := ?_)
    refine cl [1, 2, 3, 8] (k := ?_)
    repeat refine gwp_seq ?_
    refine gwp_region ?_
    refine v0 (k := ?_)
    refine v0 (k := ?_)
    refine rb 36 true (h := by (first | rfl | decide)) (k := ?_)
    refine nil0 ?_
    repeat refine gwp_seq ?_
    refine cT (k := ?_)
    repeat refine gwp_seq ?_
    refine gwp_region ?_
    refine v0 (k := ?_)
    refine v0 (k := ?_)
    refine v0 (k := ?_)
    refine nil0 ?_
    repeat refine gwp_seq ?_
    refine gwp_ret ?_
    repeat (first | refine gthen_ret ?_ | refine gblock_ret ?_ | refine gnoGoto_ret ?_)
    refine fin_ret ?_
    refine fp2 (hR := ?_)
    rfl
theorem r_path_f (c : Ch) (h1 : c.kn.length ≤ 1048576) (h2 : c.rs.length ≤ 1048576) (hv : c.valid = false) (x w : Int) : PSpec Try.prog 20 [.agg [.int .i64 c.pl, .int .i64 c.ps, .list (c.kn.map pk), .list (c.rs.map pr), .int .i64 c.ms], .int .i64 x, .int .i64 w] (.ok (.tuple [.list [], .int .i64 1])) := by
  refine pspec_of Try.func20 (rfl : Try.f20.body = some _) rfl ?_
  intro E A C hN hL
  replace hN : C.N = 62 := hN
  simp only [Gh.num, List.map_cons, List.map_nil, Nat.reduceAdd]
  have hdt : ∀ (i : Decidable True), @decide True i = true := fun i => decide_eq_true trivial
  have hdf : ∀ (i : Decidable False), @decide False i = false := fun i => decide_eq_false id
  have hpk : ∀ k : Kw, pk k = P.agg [.int .i64 k.a, .int .i64 k.b] := fun _ => rfl
  have hpr : ∀ r : Rc, pr r = P.agg [.int .i64 r.p, .int .i64 r.f, .int .i64 r.t] := fun _ => rfl
  repeat refine gwp_seq ?_
  refine gwp_region ?_
  refine n1 130 false (hc := kWj1.h {}) (k := ?_)
  refine v0 (k := ?_)
  refine v0 (k := ?_)
  refine nil0 ?_
  refine cl [1, 2, 3] (k := ?_)
  repeat refine gwp_seq ?_
  rcases bb3 (inW x c.pl) (decide (0 ≤ w) && decide (w ≤ (c.rs.length : Int) - 1)) with hq1 | ⟨hq1, hq2⟩ | ⟨hq1, hq2⟩
  · repeat refine gwp_seq ?_
    refine rd ?_
    refine d0 0 (k := ?_)
    refine d0 1 (k := ?_)
    refine d0 2 (k := ?_)
    refine dpc0 3 (spec := r_plateW c x) (hent := ent49) (k := ?_)
    refine d0 4 (k := ?_)
    refine dx0 5 (k := ?_)
    refine dx0 6 (k := ?_)
    refine dx0 7 (k := ?_)
    refine dx0 8 (k := ?_)
    refine dx0 9 (k := ?_)
    refine dx0 10 (k := ?_)
    refine d0 11 (k := ?_)
    refine d0 12 (k := ?_)
    refine dx0 13 (k := ?_)
    refine dx0 14 (k := ?_)
    refine dx0 15 (k := ?_)
    refine dx0 16 (k := ?_)
    refine dx0 17 (k := ?_)
    refine dx0 18 (k := ?_)
    refine dx0 19 (k := ?_)
    refine dx0 20 (k := ?_)
    refine d0 21 (k := ?_)
    refine dpc0 22 (spec := r_check_f c h1 h2 hv _) (hent := ent48) (k := ?_)
    refine d0 23 (k := ?_)
    refine dz 24 [0, 0, 0, 6, 14, 30, 30, 94, 222, 478, 1022, 2046, 4094, 8190, 16382, 8190, 65534, 131070, 262142, 8190, 1048574, 2097150, 4194303, 8388607] (h := ?_)
    refine de 24 (h := ?_)
    refine cl [1, 2, 3, 8] (k := ?_)
    repeat refine gwp_seq ?_
    refine gwp_region ?_
    refine v0 (k := ?_)
    refine v0 (k := ?_)
    refine rb 36 true (h := by (first | rfl | decide)) (k := ?_)
    refine nil0 ?_
    repeat refine gwp_seq ?_
    refine cT (k := ?_)
    repeat refine gwp_seq ?_
    refine gwp_region ?_
    refine v0 (k := ?_)
    refine v0 (k := ?_)
    refine v0 (k := ?_)
    refine nil0 ?_
    repeat refine gwp_seq ?_
    refine gwp_ret ?_
    repeat (first | refine gthen_ret ?_ | refine gblock_ret ?_ | refine gnoGoto_ret ?_)
    refine fin_ret ?_
    refine fp2 (hR := ?_)
    rfl
  · repeat refine gwp_seq ?_
    refine rd ?_
    refine d0 0 (k := ?_)
    refine d0 1 (k := ?_)
    refine d0 2 (k := ?_)
    refine dpc0 3 (spec := r_plateW c x) (hent := ent49) (k := ?_)
    refine d0 4 (k := ?_)
    refine dw0 5 (k := ?_)
    refine dw0 6 (k := ?_)
    refine dw0 7 (k := ?_)
    refine dw0 8 (k := ?_)
    refine dw1 9 (hc := kWj1.h {}) (k := ?_)
    refine dpcw 10 (spec := s_in _ _ _) (hent := ent50) (k := ?_)
    refine d0 11 (k := ?_)
    refine d0 12 (k := ?_)
    refine dx0 13 (k := ?_)
    refine dx0 14 (k := ?_)
    refine dx0 15 (k := ?_)
    refine dx0 16 (k := ?_)
    refine dx0 17 (k := ?_)
    refine dx0 18 (k := ?_)
    refine dx0 19 (k := ?_)
    refine dx0 20 (k := ?_)
    refine d0 21 (k := ?_)
    refine dpc0 22 (spec := r_check_f c h1 h2 hv _) (hent := ent48) (k := ?_)
    refine d0 23 (k := ?_)
    refine dz 24 [0, 0, 0, 6, 14, 30, 30, 94, 222, 478, 1022, 2046, 4094, 8190, 16382, 8190, 65534, 131070, 262142, 8190, 1048574, 2097150, 4194303, 8388607] (h := ?_)
    refine de 24 (h := ?_)
    refine cl [1, 2, 3, 8] (k := ?_)
    repeat refine gwp_seq ?_
    refine gwp_region ?_
    refine v0 (k := ?_)
    refine v0 (k := ?_)
    refine rb 36 true (h := by (first | rfl | decide)) (k := ?_)
    refine nil0 ?_
    repeat refine gwp_seq ?_
    refine cT (k := ?_)
    repeat refine gwp_seq ?_
    refine gwp_region ?_
    refine v0 (k := ?_)
    refine v0 (k := ?_)
    refine v0 (k := ?_)
    refine nil0 ?_
    repeat refine gwp_seq ?_
    refine gwp_ret ?_
    repeat (first | refine gthen_ret ?_ | refine gblock_ret ?_ | refine gnoGoto_ret ?_)
    refine fin_ret ?_
    refine fp2 (hR := ?_)
    rfl
  · have hq3 := hq2
    simp only [Bool.and_eq_true, decide_eq_true_eq] at hq3
    obtain ⟨n, rfl⟩ : ∃ n : Nat, w = n := ⟨w.toNat, by omega⟩
    obtain ⟨r, hr⟩ := getE (l := c.rs) (k := n) (by omega)
    have hnl := (List.getElem?_eq_some_iff.1 hr).1
    clear hq3
    repeat refine gwp_seq ?_
    refine rd ?_
    refine d0 0 (k := ?_)
    refine d0 1 (k := ?_)
    refine d0 2 (k := ?_)
    refine dpc0 3 (spec := r_plateW c x) (hent := ent49) (k := ?_)
    refine d0 4 (k := ?_)
    refine dw0 5 (k := ?_)
    refine dw0 6 (k := ?_)
    refine dw0 7 (k := ?_)
    refine dw0 8 (k := ?_)
    refine dw1 9 (hc := kWj1.h {}) (k := ?_)
    refine dpcw 10 (spec := s_in _ _ _) (hent := ent50) (k := ?_)
    refine d0 11 (k := ?_)
    refine d0 12 (k := ?_)
    refine dw0 13 (k := ?_)
    refine dw0 14 (k := ?_)
    refine dw0 15 (k := ?_)
    refine dw1 16 (hc := kWj1.h {}) (k := ?_)
    refine dw0 17 (k := ?_)
    refine dw0 18 (k := ?_)
    refine dw0 19 (k := ?_)
    refine dw0 20 (k := ?_)
    refine d0 21 (k := ?_)
    refine dpc0 22 (spec := r_check_f c h1 h2 hv _) (hent := ent48) (k := ?_)
    refine d0 23 (k := ?_)
    refine dz 24 [0, 0, 0, 6, 14, 30, 30, 94, 222, 478, 1022, 2046, 4094, 8190, 16382, 8190, 65534, 131070, 262142, 8190, 1048574, 2097150, 4194303, 8388607] (h := ?_)
    refine de 24 (h := ?_)
    refine cl [1, 2, 3, 8] (k := ?_)
    repeat refine gwp_seq ?_
    refine gwp_region ?_
    refine v0 (k := ?_)
    refine v0 (k := ?_)
    refine rb 36 true (h := by (first | rfl | decide)) (k := ?_)
    refine nil0 ?_
    repeat refine gwp_seq ?_
    refine cT (k := ?_)
    repeat refine gwp_seq ?_
    refine gwp_region ?_
    refine v0 (k := ?_)
    refine v0 (k := ?_)
    refine v0 (k := ?_)
    refine nil0 ?_
    repeat refine gwp_seq ?_
    refine gwp_ret ?_
    repeat (first | refine gthen_ret ?_ | refine gblock_ret ?_ | refine gnoGoto_ret ?_)
    refine fin_ret ?_
    refine fp2 (hR := ?_)
    rfl
theorem r_path (c : Ch) (h1 : c.kn.length ≤ 1048576) (h2 : c.rs.length ≤ 1048576) (x w : Int) : PSpec Try.prog 20 [.agg [.int .i64 c.pl, .int .i64 c.ps, .list (c.kn.map pk), .list (c.rs.map pr), .int .i64 c.ms], .int .i64 x, .int .i64 w] (.ok (.tuple [.list (intL (pathA c x w).1), .int .i64 (pathA c x w).2])) := by
  by_cases hv : c.valid = true
  · by_cases hq : pathQ c x w = true
    · have hqi : inQ x c.pl = true := by simp only [pathQ, Bool.and_eq_true] at hq; exact hq.1.1
      rw [pathA, if_pos hv, if_pos hq]
      obtain ⟨n, r, rfl, hr, hp⟩ := pathQ_rec hq
      rw [Int.toNat_natCast, hr]
      have hri := valid_rs hv (List.mem_of_getElem? hr)
      have hin := hol_in2 (p := x) hv n
      have e1 : holN x c.rs n = (holN x c.rs n).toNat := by omega
      have e2 : r.f = r.f.toNat := by omega
      have := r_path_t c hv x n _ _ r hr e1 e2 hp (by omega) hqi
      simp only []
      rw [eF_kE]
      exact this
    · rw [pathA, if_pos hv, if_neg hq]
      exact r_path_r c hv x w (by simpa using hq)
  · rw [pathA, if_neg hv]
    exact r_path_f c h1 h2 (by simpa using hv) x w
theorem r_hold (c : Ch) (h1 : c.kn.length ≤ 1048576) (h2 : c.rs.length ≤ 1048576) (x w : Int) : PSpec Try.prog 16 [.agg [.int .i64 c.pl, .int .i64 c.ps, .list (c.kn.map pk), .list (c.rs.map pr), .int .i64 c.ms], .int .i64 x, .int .i64 w] (.ok (.tuple [.int .i64 (holdA c x w).1, .int .i64 (holdA c x w).2])) := by
  by_cases hv : c.valid = true
  · by_cases hq : holdQ c x w = true
    · rw [holdA, if_pos hv, if_pos hq]
      obtain ⟨n, rfl⟩ : ∃ n : Nat, w = n := ⟨w.toNat, by simp only [holdQ, inQ, Bool.and_eq_true, decide_eq_true_eq] at hq; omega⟩
      exact r_hold_t c hv x n hq
    · rw [holdA, if_pos hv, if_neg hq]
      exact r_hold_r c hv x w (by simpa using hq)
  · rw [holdA, if_neg hv]
    exact r_hold_f c h1 h2 (by simpa using hv) x w
theorem r_brk (c : Ch) (h1 : c.kn.length ≤ 1048576) (h2 : c.rs.length ≤ 1048576) (x : Int) : PSpec Try.prog 18 [.agg [.int .i64 c.pl, .int .i64 c.ps, .list (c.kn.map pk), .list (c.rs.map pr), .int .i64 c.ms], .int .i64 x] (.ok (.tuple [.int .i64 (brkA c x).1, .int .i64 (brkA c x).2])) := by
  by_cases hv : c.valid = true
  · by_cases hq : inQ x c.pl = true
    · rw [brkA, if_pos hv, if_pos hq]
      exact r_break_t c hv x hq
    · rw [brkA, if_pos hv, if_neg hq]
      exact r_break_r c hv x (by simpa using hq)
  · rw [brkA, if_neg hv]
    exact r_break_f c h1 h2 (by simpa using hv) x
end Go.Proofs.Ytagdholenfkeaaa

/- The statement ChainBook: what the program says is what the document says. -/
namespace Go.Proofs.Ytagdholenfkeaaa
open Go.Gh
set_option maxRecDepth 100000
set_option maxHeartbeats 4000000
theorem ints_same (l : List Nat) (h : l.length ≤ 2000000) : PSpec Try.prog 23 [.list (intL l), .list (intL l)] (.ok (.bool true)) := by
  have h := s_Ints (l.map fun x : Nat => (x : Int)) (l.map fun x : Nat => (x : Int)) (by simpa using h) (by simpa using h)
  rw [List.map_map, decide_eq_true rfl] at h
  exact h
theorem pathA_len (c : Ch) (x w : Int) : (pathA c x w).1.length ≤ 2000000 := by
  unfold pathA
  split
  · split
    · split
      · split
        · have := (pathL_len (kn := c.kn) (f := D (eF c.kn (-1))) (P := c.ps.toNat) (dst := (‹Rc›).f.toNat) (D (eF c.kn (-1)) (holN x c.rs w.toNat).toNat (‹Rc›).f.toNat).toNat (holN x c.rs w.toNat).toNat).2
          simp only; omega
        · simp
      · simp
    · simp
  · simp
theorem ent3 : Enters Try.prog 3 := Enters.mk Try.func3 (by kernel_rfl) rfl
theorem l_book (c : Ch) (x w : Int) : PSpec Try.prog 3 [.agg [.int .i64 c.pl, .int .i64 c.ps, .list (c.kn.map pk), .list (c.rs.map pr), .int .i64 c.ms], .int .i64 x, .int .i64 w] (.ok (.bool true)) := by
  refine pspec_of Try.func3 (rfl : Try.f3.body = some _) rfl ?_
  intro E A C hN hL
  replace hN : C.N = 117 := hN
  simp only [Gh.num, List.map_cons, List.map_nil, Nat.reduceAdd]
  have hdt : ∀ (i : Decidable True), @decide True i = true := fun i => decide_eq_true trivial
  have hdf : ∀ (i : Decidable False), @decide False i = false := fun i => decide_eq_false id
  repeat refine gwp_seq ?_
  refine gwp_region ?_
  refine n1 130 false (hc := by (first | exact True.intro | (simp only [inI]; omega) | (simp [P.size, pr, pk, all_int, allOne_p, goods_p, allOne, goods, good, G.one, P.one, P.cells] <;> first | omega | assumption | simp_all))) (k := ?_)
  refine v0 (k := ?_)
  refine nil0 ?_
  refine cl [1, 2, 3] (k := ?_)
  repeat refine gwp_seq ?_
  refine gwp_region ?_
  refine v0 (k := ?_)
  refine pc0 (spec := l_great c 12) (hent := ent13) (k := ?_)
  refine nil0 ?_
  repeat refine gwp_seq ?_
  refine cB (k1 := fun hb1 => ?_) (k0 := fun hb1 => ?_)
  · replace hb1 := hB.h {} hb1
    repeat refine gwp_seq ?_
    refine gwp_region ?_
    refine pc0 (spec := l_alive) (hent := ent14) (k := ?_)
    refine v0 (k := ?_)
    refine nil0 ?_
    repeat refine gwp_seq ?_
    refine gwp_ret ?_
    repeat (first | refine gthen_ret ?_ | refine gblock_ret ?_ | refine gnoGoto_ret ?_)
    refine fin_ret ?_
    refine fp (hR := ?_)
    rfl
  · replace hb1 := hB.h {} hb1
    repeat refine gwp_seq ?_
    refine gwp_skip ?_
    refine cl [1, 2, 3] (k := ?_)
    repeat refine gwp_seq ?_
    obtain ⟨hk6, hr6⟩ := great_len (c := c) (n := 12) (by assumption)
    clear hb1
    refine gwp_region ?_
    refine v0 (k := ?_)
    refine v0 (k := ?_)
    refine v0 (k := ?_)
    refine pc0 (spec := c_hold c (by omega) (by omega) x w) (hent := ent15) (k := ?_)
    refine v0 (k := ?_)
    refine v0 (k := ?_)
    refine v0 (k := ?_)
    refine v0 (k := ?_)
    refine v0 (k := ?_)
    refine nil0 ?_
    refine cl [1, 2, 3, 7, 8] (k := ?_)
    repeat refine gwp_seq ?_
    refine gwp_region ?_
    refine v0 (k := ?_)
    refine v0 (k := ?_)
    refine v0 (k := ?_)
    refine pc0 (spec := r_hold c (by omega) (by omega) x w) (hent := ent16) (k := ?_)
    refine v0 (k := ?_)
    refine v0 (k := ?_)
    refine v0 (k := ?_)
    refine v0 (k := ?_)
    refine v0 (k := ?_)
    refine nil0 ?_
    refine cl [1, 2, 3, 7, 8, 9, 10] (k := ?_)
    repeat refine gwp_seq ?_
    refine gwp_region ?_
    refine v0 (k := ?_)
    refine v0 (k := ?_)
    refine pc0 (spec := c_brk c (by omega) (by omega) x) (hent := ent17) (k := ?_)
    refine v0 (k := ?_)
    refine v0 (k := ?_)
    refine v0 (k := ?_)
    refine v0 (k := ?_)
    refine v0 (k := ?_)
    refine nil0 ?_
    refine cl [1, 2, 3, 7, 8, 9, 10, 11, 12] (k := ?_)
    repeat refine gwp_seq ?_
    refine gwp_region ?_
    refine v0 (k := ?_)
    refine v0 (k := ?_)
    refine pc0 (spec := r_brk c (by omega) (by omega) x) (hent := ent18) (k := ?_)
    refine v0 (k := ?_)
    refine v0 (k := ?_)
    refine v0 (k := ?_)
    refine v0 (k := ?_)
    refine v0 (k := ?_)
    refine nil0 ?_
    refine cl [1, 2, 3, 7, 8, 9, 10, 11, 12, 13, 14] (k := ?_)
    repeat refine gwp_seq ?_
    refine gwp_region ?_
    refine v0 (k := ?_)
    refine v0 (k := ?_)
    refine v0 (k := ?_)
    refine pc0 (spec := c_path c (by omega) (by omega) x w) (hent := ent19) (k := ?_)
    refine v0 (k := ?_)
    refine v0 (k := ?_)
    refine v0 (k := ?_)
    refine v0 (k := ?_)
    refine v0 (k := ?_)
    refine nil0 ?_
    refine cl [1, 2, 3, 7, 8, 9, 10, 11, 12, 13, 14, 15, 16] (k := ?_)
    repeat refine gwp_seq ?_
    refine gwp_region ?_
    refine v0 (k := ?_)
    refine v0 (k := ?_)
    refine v0 (k := ?_)
    refine pc0 (spec := r_path c (by omega) (by omega) x w) (hent := ent20) (k := ?_)
    refine v0 (k := ?_)
    refine v0 (k := ?_)
    refine v0 (k := ?_)
    refine v0 (k := ?_)
    refine v0 (k := ?_)
    refine nil0 ?_
    refine cl [3, 7, 8, 9, 10, 11, 12, 13, 14, 15, 16, 17, 18] (k := ?_)
    repeat refine gwp_seq ?_
    refine gwp_region ?_
    refine v0 (k := ?_)
    refine pc0 (spec := c_least c (by omega) (by omega)) (hent := ent21) (k := ?_)
    refine v0 (k := ?_)
    refine v0 (k := ?_)
    refine v0 (k := ?_)
    refine v0 (k := ?_)
    refine v0 (k := ?_)
    refine nil0 ?_
    refine cl [3, 7, 8, 9, 10, 11, 12, 13, 14, 15, 16, 17, 18, 19, 20] (k := ?_)
    repeat refine gwp_seq ?_
    refine gwp_region ?_
    refine v0 (k := ?_)
    refine pc0 (spec := r_least c (by omega) (by omega)) (hent := ent22) (k := ?_)
    refine v0 (k := ?_)
    refine v0 (k := ?_)
    refine v0 (k := ?_)
    refine v0 (k := ?_)
    refine v0 (k := ?_)
    refine nil0 ?_
    refine cl [7, 8, 9, 10, 11, 12, 13, 14, 15, 16, 17, 18, 19, 20, 21, 22] (k := ?_)
    repeat refine gwp_seq ?_
    refine gwp_region ?_
    refine v0 (k := ?_)
    refine v0 (k := ?_)
    refine v0 (k := ?_)
    refine rb 78 true (h := by (first | rfl | decide)) (k := ?_)
    refine v0 (k := ?_)
    refine w0 (k := ?_)
    refine w0 (k := ?_)
    refine w0 (k := ?_)
    refine rb 82 true (h := by (first | rfl | decide)) (k := ?_)
    refine v0 (k := ?_)
    refine v0 (k := ?_)
    refine w0 (k := ?_)
    refine w0 (k := ?_)
    refine w0 (k := ?_)
    refine rb 87 true (h := by (first | rfl | decide)) (k := ?_)
    refine v0 (k := ?_)
    refine v0 (k := ?_)
    refine w0 (k := ?_)
    refine w0 (k := ?_)
    refine w0 (k := ?_)
    refine rb 92 true (h := by (first | rfl | decide)) (k := ?_)
    refine v0 (k := ?_)
    refine v0 (k := ?_)
    refine w0 (k := ?_)
    refine w0 (k := ?_)
    refine pcw (spec := ints_same _ (pathA_len c x w)) (hent := ent23) (k := ?_)
    refine rb 97 true (h := by (rfl)) (k := ?_)
    refine v0 (k := ?_)
    refine v0 (k := ?_)
    refine w0 (k := ?_)
    refine w0 (k := ?_)
    refine w0 (k := ?_)
    refine rb 102 true (h := by (first | rfl | decide)) (k := ?_)
    refine v0 (k := ?_)
    refine v0 (k := ?_)
    refine w0 (k := ?_)
    refine w0 (k := ?_)
    refine w0 (k := ?_)
    refine rb 107 true (h := by (first | rfl | decide)) (k := ?_)
    refine v0 (k := ?_)
    refine v0 (k := ?_)
    refine w0 (k := ?_)
    refine w0 (k := ?_)
    refine w0 (k := ?_)
    refine rb 112 true (h := by (first | rfl | decide)) (k := ?_)
    refine v0 (k := ?_)
    refine v0 (k := ?_)
    refine pcw (spec := l_alive) (hent := ent14) (k := ?_)
    refine v0 (k := ?_)
    refine v0 (k := ?_)
    refine nil0 ?_
    repeat refine gwp_seq ?_
    refine gwp_ret ?_
    repeat (first | refine gthen_ret ?_ | refine gblock_ret ?_ | refine gnoGoto_ret ?_)
    refine fin_ret ?_
    refine fp (hR := ?_)
    rfl
end Go.Proofs.Ytagdholenfkeaaa

/- The statement ChainBook, for every input: the law returns true, and its arguments read as they did.  -/
namespace Go.Proofs.Ytagdholenfkeaaa
open Go.Gh Go.ChangeShapes Go.WideShapes Go.ChangeAt Go.RowKit
set_option maxRecDepth 100000
theorem aj_book : ∀ ps, FitAs [(true, chSS), (false, [.int .i64]), (false, [.int .i64])] ps → PSpec Try.prog 3 ps (.ok (.bool true)) := fun ps h => by
  simp only [FitAs] at h
  obtain ⟨_, _, rfl, q0, _, _, rfl, q1, _, _, rfl, q2, rfl⟩ := h
  obtain ⟨c, rfl, hc1, hc2, hc3, hc4, hc5, hc6, hc7⟩ := ch_of q0
  obtain ⟨x, rfl, hx⟩ := int_of q1
  obtain ⟨w, rfl, hw⟩ := int_of q2
  exact l_book c x w
theorem book_lifted (os : Os) (started : os.Started) (H : Type) (enc : TypeId × Value → H) :
    ReturnsInHanded {} Try.checked os 3 .any (Rows.chainBookSpec.pre6 enc Try.prog Try.f3 Rows.chainBookRow.domain false) (Rows.chainBookSpec.post enc Try.prog Try.f3 false true false false) := by
  refine returnsInHanded_of_change (C := Try.checked) own started (by kernel_rfl) Try.func3
    (ChangeSpec.witness6 (enc := enc) (C := Try.checked) false ⟨#[], #[.agg #[.int .i64 0, .int .i64 0, .slice none 0 0, .slice none 0 0, .int .i64 0], .int .i64 0, .int .i64 0], []⟩ 8 (by kernel_rfl) (by kernel_rfl) (by kernel_rfl) (by kernel_rfl)) ?_
  intro W base args ds gs before hval hW _ _
  exact law_post (n := 9) (ss := [(true, chSS), (false, [.int .i64]), (false, [.int .i64])]) (b := 4) laidOut (by kernel_rfl) (by kernel_rfl) (by kernel_rfl) (by kernel_rfl) rfl
    (fun ds hd => by
      have hd' : ds.length = 3 := hd
      match ds, hd' with
      | [a, b, c], _ => rfl) aj_book hval hW
theorem book_holds : Rows.ChainBookSaid :=
  OpenClaim.holds_of_wide 3 Try.f3 rfl rfl rfl rfl rfl rfl rfl ⟨rfl, rfl, rfl, rfl, rfl⟩ rfl rfl rfl rfl rfl (by kernel_rfl) Try.func3 (by kernel_rfl)
    (of_decide_eq_true (by kernel_rfl)) (by unfold Func.isWrapper; first | (rw [if_pos (by decide +kernel)]; kernel_rfl) | (rw [if_neg (by decide +kernel)]; exact ⟨rfl, rfl⟩))
    (fun os started H enc _ => book_lifted os started H enc)
end Go.Proofs.Ytagdholenfkeaaa
