/- The statement ChainTrue: the call returns true for every input, and its arguments read as before; no condition. -/
import Derived.Test.YtagdholenfkeaaaC1
set_option linter.unusedVariables false
set_option linter.unusedSimpArgs false
/- What truly happened, and what can be told of it. -/
namespace Go.Proofs.Ytagdholenfkeaaa
open Go.Gh
set_option maxRecDepth 100000
def lastR : Nat → List Rc → Nat
  | h, [] => h
  | _, r :: l => lastR r.t.toNat l
theorem lastR_snoc : ∀ (l : List Rc) (h : Nat) (r : Rc), lastR h (l ++ [r]) = r.t.toNat
  | [], _, _ => rfl
  | x :: l, _, r => lastR_snoc l x.t.toNat r
theorem last_lastR : ∀ (l : List (Nat × Rc)) (h : Int), (lastH h l).toNat = lastR h.toNat (l.map (·.2))
  | [], _ => rfl
  | e :: l, _ => by rw [lastH_cons]; exact last_lastR l e.2.t
theorem totR_snoc (f : Mx) : ∀ (l : List Rc) (h : Nat) (r : Rc), totR f h (l ++ [r]) = totR f h l + f (lastR h l) r.f.toNat
  | [], h, r => by simp [totR, lastR]
  | x :: l, h, r => by
    have := totR_snoc f l x.t.toNat r
    simp only [List.cons_append, totR, lastR]; omega
/-- By way of a person, to where the plate truly is. -/
def viaT (f : Mx) (u x : Nat) : Nat → List Rc → Int → Prop
  | h, [], n => f h u + f u x ≤ n
  | h, r :: l, n => f h u + f u r.f.toNat + totR f r.t.toNat l + f (lastR r.t.toNat l) x ≤ n ∨ viaT f u x r.t.toNat l (n - f h r.f.toNat)
section
variable {f : Mx} (hf : MOk f)
include hf
theorem viaT_R {u x : Nat} : ∀ (l : List Rc) (h : Nat) (n : Int), viaT f u x h l n → viaR f u (n - totR f h l) h l
  | [], h, n, hx => by
    have := hf.nn u x
    simp only [viaT] at hx
    simp only [viaR, totR]; omega
  | r :: l, h, n, hx => by
    have h1 := hf.nn (lastR r.t.toNat l) x
    simp only [viaT] at hx
    simp only [viaR, totR]
    rcases hx with hx | hx
    · exact .inl (by omega)
    · exact .inr (viaR_mono (by omega) _ _ (viaT_R l _ _ hx))
omit hf in
theorem viaT_end {u x : Nat} : ∀ (l : List Rc) (h : Nat) (n : Int), totR f h l + f (lastR h l) u + f u x ≤ n → viaT f u x h l n
  | [], h, n, hx => by simp only [totR, lastR] at hx; simp only [viaT]; omega
  | r :: l, h, n, hx => by
    simp only [totR, lastR] at hx
    exact .inr (viaT_end l _ _ (by omega))
theorem viaT_snoc {u x y : Nat} {r : Rc} (h1 : r.f.toNat = x) (h2 : r.t.toNat = y) : ∀ (l : List Rc) (h : Nat) (n : Int), viaT f u x h l n → viaT f u y h (l ++ [r]) n
  | [], h, n, hx => by
    have hz := hf.zz y
    simp only [viaT] at hx
    refine .inl ?_
    simp only [totR, lastR, h1, h2]; omega
  | z :: l, h, n, hx => by
    have hz := hf.zz y
    simp only [viaT] at hx
    rcases hx with hx | hx
    · refine .inl ?_
      show f h u + f u z.f.toNat + totR f z.t.toNat (l ++ [r]) + f (lastR z.t.toNat (l ++ [r])) y ≤ n
      rw [totR_snoc, lastR_snoc, h1, h2]; omega
    · exact .inr (viaT_snoc h1 h2 l _ _ hx)
omit hf in
theorem viaT_step {u x y : Nat} (hs : ∀ i, f i y ≤ f i x + 1) : ∀ (l : List Rc) (h : Nat) (n : Int), viaT f u x h l n → viaT f u y h l (n + 1)
  | [], h, n, hx => by have := hs u; simp only [viaT] at hx ⊢; omega
  | r :: l, h, n, hx => by
    have := hs (lastR r.t.toNat l)
    simp only [viaT] at hx ⊢
    rcases hx with hx | hx
    · exact .inl (by omega)
    · have := viaT_step hs l _ _ hx
      rw [show n - f h r.f.toNat + 1 = n + 1 - f h r.f.toNat by omega] at this
      exact .inr this
end
theorem orb_bit {m y u : Nat} : (m ||| 2 ^ y).testBit u = (m.testBit u || decide (y = u)) := by rw [Nat.testBit_or, Nat.testBit_two_pow]
/-- Of one plate: where it truly is, through whose hands it went, how often unwritten. -/
structure PI (kn : List Kw) (l : List Rc) (x m : Nat) (n : Int) : Prop where
  x8 : x < 8
  inm : m.testBit x = true
  own : totR (D (eF kn (-1))) 0 l + D (eF kn (-1)) (lastR 0 l) x ≤ n
  past : ∀ u : Nat, m.testBit u = false → u ≠ 0 ∧ (∀ r ∈ l, r.f.toNat ≠ u ∧ r.t.toNat ≠ u) ∧ totR (D (eF kn (u : Nat))) 0 l + D (eF kn (u : Nat)) (lastR 0 l) x ≤ n
  via : ∀ u : Nat, m.testBit u = true → viaT (D (eF kn (-1))) u x 0 l n
theorem PI.zero (kn : List Kw) : PI kn [] 0 1 0 where
  x8 := by omega
  inm := rfl
  own := by have := (D_ok (eF kn (-1))).zz 0; simp only [totR, lastR]; omega
  past := fun u h => by
    have hu : u ≠ 0 := by rintro rfl; exact absurd h (by decide)
    have := (D_ok (eF kn (u : Nat))).zz 0
    exact ⟨hu, fun r hr => by simp at hr, by simp only [totR, lastR]; omega⟩
  via := fun u h => by
    have hu : u = 0 := by
      rw [show (1 : Nat) = 2 ^ 0 from rfl, Nat.testBit_two_pow] at h
      have := of_decide_eq_true h; omega
    subst hu
    have := (D_ok (eF kn (-1))).zz 0
    simp only [viaT]; omega
theorem edge_tri {kn : List Kw} {but : Int} {x y : Nat} (hx : x < 8) (h1 : ¬ (x : Int) = but) (h2 : ¬ (y : Int) = but) (hk : knowI kn (x : Nat) (y : Nat) = true) (i : Nat) : D (eF kn but) i y ≤ D (eF kn but) i x + 1 := by
  have h3 := D_edge (eF_t h1 h2 hk)
  have h4 := D_tri (eF kn but) hx i y
  omega
theorem PI.unwr {kn : List Kw} {l : List Rc} {x m y : Nat} {n : Int} (h : PI kn l x m n) (hk : knowI kn (x : Nat) (y : Nat) = true) (hy : y < 8) : PI kn l y (m ||| 2 ^ y) (n + 1) where
  x8 := hy
  inm := by rw [orb_bit, decide_eq_true rfl, Bool.or_true]
  own := by have := h.own; have := edge_tri (but := -1) h.x8 (by omega) (by omega) hk (lastR 0 l); omega
  past := fun u hu => by
    rw [orb_bit, Bool.or_eq_false_iff, decide_eq_false_iff_not] at hu
    obtain ⟨a, b, d⟩ := h.past u hu.1
    have hxu : x ≠ u := by rintro rfl; rw [h.inm] at hu; exact absurd hu.1 (by decide)
    have := edge_tri (but := (u : Nat)) h.x8 (by omega) (by omega) hk (lastR 0 l)
    exact ⟨a, b, by omega⟩
  via := fun u hu => by
    have hs := edge_tri (kn := kn) (but := -1) (y := y) h.x8 (by omega) (by omega) hk
    rw [orb_bit, Bool.or_eq_true, decide_eq_true_iff] at hu
    rcases hu with hu | rfl
    · exact viaT_step hs l 0 n (h.via u hu)
    · refine viaT_end l 0 _ ?_
      have := h.own; have := hs (lastR 0 l); have := (D_ok (eF kn (-1))).zz y
      omega
theorem PI.wrt {kn : List Kw} {l : List Rc} {x m y : Nat} {n : Int} {r : Rc} (h : PI kn l x m n) (h1 : r.f.toNat = x) (h2 : r.t.toNat = y) (hy : y < 8) : PI kn (l ++ [r]) y (m ||| 2 ^ y) n where
  x8 := hy
  inm := by rw [orb_bit, decide_eq_true rfl, Bool.or_true]
  own := by have := h.own; have := (D_ok (eF kn (-1))).zz y; rw [totR_snoc, lastR_snoc, h1, h2]; omega
  past := fun u hu => by
    rw [orb_bit, Bool.or_eq_false_iff, decide_eq_false_iff_not] at hu
    obtain ⟨a, b, d⟩ := h.past u hu.1
    have hxu : x ≠ u := by rintro rfl; rw [h.inm] at hu; exact absurd hu.1 (by decide)
    have := (D_ok (eF kn (u : Nat))).zz y
    refine ⟨a, fun z hz => ?_, by rw [totR_snoc, lastR_snoc, h1, h2]; omega⟩
    rcases List.mem_append.1 hz with hz | hz
    · exact b z hz
    · rw [List.mem_singleton] at hz
      subst hz
      exact ⟨by omega, by omega⟩
  via := fun u hu => by
    rw [orb_bit, Bool.or_eq_true, decide_eq_true_iff] at hu
    rcases hu with hu | rfl
    · exact viaT_snoc (D_ok _) h1 h2 l 0 n (h.via u hu)
    · refine viaT_end _ 0 _ ?_
      have := h.own; have := (D_ok (eF kn (-1))).zz y
      rw [totR_snoc, lastR_snoc, h1, h2]; omega
/-- Sums. -/
def sumU (u : Nat → Int) : Nat → Int
  | 0 => 0
  | k + 1 => sumU u k + u k
theorem sumU_same {u v : Nat → Int} : ∀ k, (∀ i, i < k → u i = v i) → sumU u k = sumU v k
  | 0, _ => rfl
  | k + 1, h => by rw [sumU, sumU, sumU_same k fun i hi => h i (by omega), h k (by omega)]
theorem sumU_upd {u : Nat → Int} {p : Nat} : ∀ k, p < k → sumU (fun q => if q = p then u p + 1 else u q) k = sumU u k + 1
  | 0, h => by omega
  | k + 1, h => by
    by_cases e : p = k
    · subst e
      rw [sumU, sumU, if_pos rfl, sumU_same p (u := fun q => if q = p then u p + 1 else u q) (v := u) fun i hi => if_neg (by omega)]; omega
    · rw [sumU, sumU, sumU_upd k (by omega), if_neg (show ¬ k = p by omega)]; omega
/-- The whole of it. -/
structure TI (pl ps : Nat) (kn : List Kw) (rs : List Rc) (has hands : List Nat) (un : Nat) : Prop where
  hl : has.length = pl
  dl : hands.length = pl
  hr : ∀ (p x : Nat), has[p]? = some x → x < ps
  dr : ∀ (p m : Nat), hands[p]? = some m → m < 2 ^ ps
  rl : rs.length ≤ 12
  rv : ∀ r ∈ rs, badR pl ps r = false
  ul : un ≤ 20
  us : ∃ u : Nat → Int, sumU u pl = un ∧ ∀ (p x m : Nat), has[p]? = some x → hands[p]? = some m → PI kn (plR rs (p : Nat)) x m (u p)
theorem TI.zero {pl ps : Nat} {kn : List Kw} (hp : 1 ≤ ps) : TI pl ps kn [] (List.replicate pl 0) (List.replicate pl 1) 0 where
  hl := by simp
  dl := by simp
  hr := fun p x h => by rw [List.getElem?_replicate] at h; split at h <;> simp at h; omega
  dr := fun p m h => by
    rw [List.getElem?_replicate] at h; split at h <;> simp at h
    subst h; exact Nat.lt_of_lt_of_le (by decide : 1 < 2 ^ 1) (Nat.pow_le_pow_right (by omega) hp)
  rl := by simp
  rv := fun r h => by simp at h
  ul := by omega
  us := ⟨fun _ => 0, by
    have : ∀ k, sumU (fun _ => 0) k = 0 := fun k => by induction k with
      | zero => rfl
      | succ k ih => rw [sumU, ih]; rfl
    exact this pl, fun p x m h1 h2 => by
      rw [List.getElem?_replicate] at h1 h2
      split at h1
      · rename_i g
        rw [if_pos g] at h2
        cases h1; cases h2
        exact PI.zero kn
      · cases h1⟩
theorem plR_snoc (rs : List Rc) (r : Rc) (q : Int) : plR (rs ++ [r]) q = if r.p = q then plR rs q ++ [r] else plR rs q := by
  rw [plR, List.filter_append]
  by_cases h : r.p = q
  · rw [if_pos h, List.filter_cons_of_pos (by simpa using h)]; rfl
  · rw [if_neg h, List.filter_cons_of_neg (by simpa using h)]; simp [plR]
theorem set_get {α : Type} {l : List α} {i j : Nat} {x y : α} (h : (l.set i x)[j]? = some y) : (j = i ∧ y = x) ∨ (j ≠ i ∧ l[j]? = some y) := by
  by_cases e : j = i
  · subst e
    rw [List.getElem?_set_self' ] at h
    cases hl : l[j]? with
    | none => rw [hl] at h; simp at h
    | some z => rw [hl] at h; simp at h; exact .inl ⟨rfl, h.symm⟩
  · rw [List.getElem?_set_ne (by omega)] at h
    exact .inr ⟨e, h⟩
section
variable {pl ps : Nat} {kn : List Kw} {rs : List Rc} {has hands : List Nat} {un : Nat} (h : TI pl ps kn rs has hands un) {p x m y : Nat} (hx : has[p]? = some x) (hm : hands[p]? = some m) (hy : y < ps) (hp8 : ps ≤ 8)
include h hx hm hy hp8
theorem TI.unwr (hk : knowI kn (x : Nat) (y : Nat) = true) (hu : un < 20) : TI pl ps kn rs (has.set p y) (hands.set p (m ||| 2 ^ y)) (un + 1) where
  hl := by rw [List.length_set, h.hl]
  dl := by rw [List.length_set, h.dl]
  hr := fun q z hz => by
    rcases set_get hz with ⟨_, rfl⟩ | ⟨_, hz⟩
    · exact hy
    · exact h.hr q z hz
  dr := fun q z hz => by
    rcases set_get hz with ⟨_, rfl⟩ | ⟨_, hz⟩
    · exact Nat.or_lt_two_pow (h.dr p m hm) (Nat.pow_lt_pow_right (by omega) hy)
    · exact h.dr q z hz
  rl := h.rl
  rv := h.rv
  ul := by omega
  us := by
    obtain ⟨u, hs, hu2⟩ := h.us
    have hpl : p < pl := by rw [← h.hl]; exact (List.getElem?_eq_some_iff.1 hx).1
    refine ⟨fun q => if q = p then u p + 1 else u q, by rw [sumU_upd pl hpl, hs]; omega, fun q z w hz hw => ?_⟩
    rcases set_get hz with ⟨rfl, rfl⟩ | ⟨hne, hz⟩
    · rcases set_get hw with ⟨_, rfl⟩ | ⟨hne, _⟩
      · simp only [if_pos]; exact (hu2 q x m hx hm).unwr hk (by omega)
      · exact absurd rfl hne
    · rcases set_get hw with ⟨e, _⟩ | ⟨_, hw⟩
      · exact absurd e hne
      · simp only [if_neg hne]; exact hu2 q z w hz hw
theorem TI.wrt (hne : x ≠ y) (hpl4 : pl ≤ 4) (hr : rs.length < 12) : TI pl ps kn (rs ++ [⟨(p : Nat), (x : Nat), (y : Nat)⟩]) (has.set p y) (hands.set p (m ||| 2 ^ y)) un where
  hl := by rw [List.length_set, h.hl]
  dl := by rw [List.length_set, h.dl]
  hr := fun q z hz => by
    rcases set_get hz with ⟨_, rfl⟩ | ⟨_, hz⟩
    · exact hy
    · exact h.hr q z hz
  dr := fun q z hz => by
    rcases set_get hz with ⟨_, rfl⟩ | ⟨_, hz⟩
    · exact Nat.or_lt_two_pow (h.dr p m hm) (Nat.pow_lt_pow_right (by omega) hy)
    · exact h.dr q z hz
  rl := by rw [List.length_append, List.length_cons, List.length_nil]; omega
  rv := fun r hrr => by
    rcases List.mem_append.1 hrr with hrr | hrr
    · exact h.rv r hrr
    · rw [List.mem_singleton] at hrr
      subst hrr
      have hpl : p < pl := by rw [← h.hl]; exact (List.getElem?_eq_some_iff.1 hx).1
      have hxp := h.hr p x hx
      simp only [badR]
      rw [decide_eq_true (by omega), decide_eq_true (by omega), decide_eq_true (by omega), decide_eq_true (by omega), decide_eq_true (by omega), decide_eq_true (by omega), decide_eq_false (by omega)]; rfl
  ul := h.ul
  us := by
    obtain ⟨u, hs, hu2⟩ := h.us
    refine ⟨u, hs, fun q z w hz hw => ?_⟩
    rw [plR_snoc]
    rcases set_get hz with ⟨rfl, rfl⟩ | ⟨hne, hz⟩
    · rcases set_get hw with ⟨_, rfl⟩ | ⟨hne, _⟩
      · rw [if_pos rfl]; exact (hu2 q x m hx hm).wrt (by simp) (by simp) (by omega)
      · exact absurd rfl hne
    · rcases set_get hw with ⟨e, _⟩ | ⟨_, hw⟩
      · exact absurd e hne
      · rw [if_neg (show ¬ ((p : Nat) : Int) = (q : Nat) by omega)]; exact hu2 q z w hz hw
end
/-! What can be told -/
section
variable {pl ps : Nat} {kn : List Kw} {rs : List Rc} {has hands : List Nat} {un : Nat} (h : TI pl ps kn rs has hands un) (h1 : 1 ≤ pl ∧ pl ≤ 4) (h2 : 1 ≤ ps ∧ ps ≤ 8) (hkl : kn.length ≤ 28) (hkv : ∀ k ∈ kn, badK ps k = false) {ms : Int} (hms : (un : Int) ≤ ms ∧ ms ≤ 20)
include h h1 h2 hkl hkv hms
theorem tr_valid : (Ch.mk pl ps kn rs ms).valid = true := by
  refine valid_iff.2 ⟨⟨?_, hkl, h.rl⟩, hkv, h.rv⟩
  simp only [Ch.head]
  rw [decide_eq_true (by omega), decide_eq_true (by omega), decide_eq_true (by omega), decide_eq_true (by omega), decide_eq_true (by omega), decide_eq_true (by omega)]; rfl
omit h1 h2 hkl hkv hms in
theorem tr_parts : ∃ u : Nat → Int, sumU u pl = un ∧ (∀ (p x m : Nat), has[p]? = some x → hands[p]? = some m → PI kn (plR rs (p : Nat)) x m (u p)) ∧ (∀ k, k ≤ pl → sumR (D (eF kn (-1))) rs k ≤ sumU u k) ∧ (∀ p : Nat, p < pl → leastC (Ch.mk pl ps kn rs ms) + (u p - totR (D (eF kn (-1))) 0 (plR rs (p : Nat))) ≤ un) := by
  obtain ⟨u, hs, hu⟩ := h.us
  have hle : ∀ p : Nat, p < pl → totR (D (eF kn (-1))) 0 (plR rs (p : Nat)) ≤ u p := fun p hp => by
    obtain ⟨x, hx⟩ := getE (l := has) (k := p) (by rw [h.hl]; omega)
    obtain ⟨m, hm⟩ := getE (l := hands) (k := p) (by rw [h.dl]; omega)
    have := (hu p x m hx hm).own
    have := (D_ok (eF kn (-1))).nn (lastR 0 (plR rs (p : Nat))) x
    omega
  have hsum : ∀ k, k ≤ pl → sumR (D (eF kn (-1))) rs k ≤ sumU u k ∧ ∀ p : Nat, p < k → sumR (D (eF kn (-1))) rs k + (u p - totR (D (eF kn (-1))) 0 (plR rs (p : Nat))) ≤ sumU u k := fun k => by
    induction k with
    | zero => intro _; exact ⟨Int.le_refl _, fun p hp => by omega⟩
    | succ k ih =>
      intro hk
      obtain ⟨i1, i2⟩ := ih (by omega)
      have hk2 := hle k (by omega)
      simp only [sumR, sumU]
      refine ⟨by omega, fun p hp => ?_⟩
      by_cases e : p = k
      · subst e; omega
      · have := i2 p (by omega); omega
  refine ⟨u, hs, hu, fun k hk => (hsum k hk).1, fun p hp => ?_⟩
  have := (hsum pl (Nat.le_refl _)).2 p hp
  rw [least_sumR]
  show sumR (D (eF kn (-1))) rs ((pl : Int)).toNat + _ ≤ _
  rw [Int.toNat_natCast]; omega
omit h1 h2 hkl hkv hms in
theorem tr_least : 0 ≤ leastC (Ch.mk pl ps kn rs ms) ∧ leastC (Ch.mk pl ps kn rs ms) ≤ un := by
  obtain ⟨u, hs, hu, h3, h4⟩ := tr_parts (ms := ms) h
  have := h3 pl (Nat.le_refl _)
  rw [least_sumR]
  show 0 ≤ sumR (D (eF kn (-1))) rs ((pl : Int)).toNat ∧ sumR (D (eF kn (-1))) rs ((pl : Int)).toNat ≤ _
  rw [Int.toNat_natCast]
  exact ⟨sumR_nn (D_ok _) _ _, by omega⟩
theorem tr_drop : dropV (Ch.mk pl ps kn rs ms) = 0 := by
  have hv := tr_valid h h1 h2 hkl hkv hms
  have hl := tr_least (ms := ms) h
  rw [drop_zero hv]
  exact decide_eq_true (show leastC (Ch.mk pl ps kn rs ms) ≤ ms by omega)
variable {p x m : Nat} (hx : has[p]? = some x) (hm : hands[p]? = some m)
include hx hm
omit h1 h2 hkl hkv in
theorem tr_one : ∃ n : Int, PI kn (plR rs (p : Nat)) x m n ∧ n - totR (D (eF kn (-1))) 0 (plR rs (p : Nat)) ≤ ms - leastC (Ch.mk pl ps kn rs ms) := by
  obtain ⟨u, hs, hu, h3, h4⟩ := tr_parts (ms := ms) h
  have hpl : p < pl := by rw [← h.hl]; exact (List.getElem?_eq_some_iff.1 hx).1
  have := h4 p hpl
  exact ⟨u p, hu p x m hx hm, by omega⟩
omit h h1 h2 hkl hkv hms hx hm in
theorem tr_last : (holN (p : Nat) rs rs.length).toNat = lastR 0 (plR rs (p : Nat)) := by
  rw [← last_all, last_lastR, sel_plR]; rfl
omit h1 h2 hkl hkv in
theorem tr_where : (whereC (Ch.mk pl ps kn rs ms) (p : Nat)).testBit x = true := by
  obtain ⟨n, hP, hn⟩ := tr_one h hms hx hm
  have hl := tr_last (rs := rs) (p := p)
  have hxp := h.hr p x hx
  rw [whereC_bit, decide_eq_true (show x < ((ps : Int)).toNat by omega), Bool.true_and]
  refine decide_eq_true ?_
  show D (eF kn (-1)) (holN (p : Nat) rs rs.length).toNat x ≤ ms - leastC (Ch.mk pl ps kn rs ms)
  rw [hl]
  have := hP.own
  omega
omit h1 h2 hkl hkv in
theorem tr_sure : ∀ i, (setN (surQ (Ch.mk pl ps kn rs ms) (p : Nat)) ps).testBit i = true → m.testBit i = true := fun i hi => by
  obtain ⟨n, hP, hn⟩ := tr_one h hms hx hm
  cases hmi : m.testBit i with
  | true => rfl
  | false =>
    obtain ⟨a, b, d⟩ := hP.past i hmi
    rw [setN_bit, Bool.and_eq_true, surQ, sureQ, Bool.or_eq_true, decide_eq_true_iff, tot_plR, tot_plR] at hi
    have hD := (D_ok (eF kn (i : Nat))).nn (lastR 0 (plR rs (p : Nat))) x
    rcases hi.2 with h5 | h5
    · rcases (named_R _ _).1 h5 with h6 | ⟨r, hr, h6⟩
      · omega
      · rw [sel_plR] at hr
        have := b r hr
        omega
    · have h5 : totR (D (eF kn (i : Nat))) 0 (plR rs (p : Nat)) > totR (D (eF kn (-1))) 0 (plR rs (p : Nat)) + (ms - leastC (Ch.mk pl ps kn rs ms)) := of_decide_eq_true h5
      omega
omit h1 h2 hkl hkv in
theorem tr_can : ∀ i, m.testBit i = true → (setN (canQ (Ch.mk pl ps kn rs ms) (p : Nat)) ps).testBit i = true := fun i hi => by
  obtain ⟨n, hP, hn⟩ := tr_one h hms hx hm
  have hl := tr_least (ms := ms) h
  have hip : i < ps := by
    rcases Nat.lt_or_ge i ps with g | g
    · exact g
    · rw [Nat.testBit_lt_two_pow (Nat.lt_of_lt_of_le (h.dr p m hm) (Nat.pow_le_pow_right (by omega) g))] at hi; cases hi
  rw [setN_bit, decide_eq_true hip, Bool.true_and, canQ_iff (c := Ch.mk pl ps kn rs ms) (show leastC (Ch.mk pl ps kn rs ms) ≤ ms by omega), sel_plR]
  exact viaR_mono hn _ _ (viaT_R (D_ok _) _ _ _ (hP.via i hi))
theorem tr_holds {q : Nat} (hq : q < ps) : ((sureH (Ch.mk pl ps kn rs ms) q pl).testBit p = true → q = x) ∧ ((canH (Ch.mk pl ps kn rs ms) q pl).testBit p = false → q ≠ x) := by
  have hw := tr_where h hms hx hm
  have hpl : p < pl := by rw [← h.hl]; exact (List.getElem?_eq_some_iff.1 hx).1
  refine ⟨fun g => ?_, fun g e => ?_⟩
  · rw [sureH_bit (tr_valid h h1 h2 hkl hkv hms) (by omega) hpl] at g
    have g := of_decide_eq_true g
    rw [g, Nat.testBit_two_pow] at hw
    exact of_decide_eq_true hw
  · subst e
    rw [canH_bit _ _ hpl, hw] at g; cases g
end
end Go.Proofs.Ytagdholenfkeaaa

/- What is drawn, and all that is told of what truly happened. -/
namespace Go.Proofs.Ytagdholenfkeaaa
open Go.Gh
set_option maxRecDepth 100000
theorem tmod_n (a b : Nat) : (a : Int).tmod (b : Int) = ((a % b : Nat) : Int) := (Int.ofNat_tmod a b).symm
def drawN (bs : List Int) (t n : Nat) : Nat := ((bs.getD (t % bs.length) 0).toNat + 41 * t) % n
theorem drawN_lt (bs : List Int) (t : Nat) {n : Nat} (h : 0 < n) : drawN bs t n < n := Nat.mod_lt _ h
theorem drawN_at {bs : List Int} {t n u : Nat} (h : bs[t % bs.length]? = some (u : Int)) : ((u : Int) + 41 * (t : Int)).tmod (n : Int) = ((drawN bs t n : Nat) : Int) := by
  rw [drawN, List.getD_eq_getElem?_getD, h, Option.getD_some, Int.toNat_natCast]
  have := tmod_n (u + 41 * t) n
  rw [← this]; congr 1
def natI (l : List Nat) : List Int := l.map fun x : Nat => (x : Int)
theorem natI_len (l : List Nat) : (natI l).length = l.length := List.length_map _
theorem natI_get {l : List Nat} {p x : Nat} (h : l[p]? = some x) : (natI l)[p]? = some (x : Int) := by rw [natI, List.getElem?_map, h]; rfl
theorem natI_set (l : List Nat) (p x : Nat) : natI (l.set p x) = (natI l).set p (x : Int) := List.map_set
theorem natI_rep (n x : Nat) : natI (List.replicate n x) = List.replicate n (x : Int) := by rw [natI, List.map_replicate]
theorem all_one {zs : List Int} {n : Nat} (h1 : zs.length = n) (h2 : ∀ j : Nat, j < n → zs[j]? = some 1) : zs = natI (List.replicate n 1) := by
  rw [natI_rep]
  refine List.ext_getElem? fun i => ?_
  rw [List.getElem?_replicate]
  split
  · rename_i h; exact h2 i h
  · exact List.getElem?_eq_none (by omega)
theorem set_one {zs : List Int} {i n : Nat} (h1 : zs.length = n) (hi : i < n) (h2 : ∀ j : Nat, j < i → zs[j]? = some 1) : ∀ j : Nat, j < i + 1 → (zs.set i 1)[j]? = some 1 := fun j hj => by
  by_cases e : j = i
  · subst e; rw [List.getElem?_set_self (by omega)]
  · rw [List.getElem?_set_ne (by omega)]; exact h2 j (by omega)
theorem mk0 (n : Nat) : ((List.range n).map fun i => [G.p (.int .i64 0)].getD (i % 1) G.undef) = ((natI (List.replicate n 0)).map (P.int .i64)).map G.p := by
  rw [natI_rep, List.map_replicate, List.map_replicate, List.eq_replicate_iff]
  refine ⟨by simp, fun g hg => ?_⟩
  simp only [List.mem_map, List.mem_range] at hg
  obtain ⟨i, _, rfl⟩ := hg
  rw [Nat.mod_one i]; rfl
theorem mapK_snoc (l : List Kw) (a b : Int) : mapK (l ++ [⟨a, b⟩]) = mapPut (geq Try.prog 6 50) (.agg [.int .i64 b, .int .i64 a]) (.bool true) (mapPut (geq Try.prog 6 50) (.agg [.int .i64 a, .int .i64 b]) (.bool true) (mapK l)) := by
  rw [mapK, List.foldl_append]; rfl
theorem badK_snoc {ps : Int} {l : List Kw} (h : ∀ k ∈ l, badK ps k = false) {a b : Nat} (ha : (a : Int) < ps) (hb : (b : Int) < ps) (hab : ¬ (a : Int) = b) : ∀ k ∈ l ++ [⟨(a : Int), (b : Int)⟩], badK ps k = false := fun k hk => by
  rcases List.mem_append.1 hk with hk | hk
  · exact h k hk
  · rw [List.mem_singleton] at hk
    subst hk
    simp only [badK]
    rw [decide_eq_true (by omega), decide_eq_true (by omega), decide_eq_true (by omega), decide_eq_true (by omega), decide_eq_false (by omega)]; rfl
theorem knw_or (l : List Kw) (a b : Nat) : (knowI l (a : Nat) (b : Nat) = true ∧ mapGet (geq Try.prog 6 50) (.agg [.int .i64 (a : Nat), .int .i64 (b : Nat)]) (mapK l) = some (.bool true)) ∨ mapGet (geq Try.prog 6 50) (.agg [.int .i64 (a : Nat), .int .i64 (b : Nat)]) (mapK l) = none := by
  by_cases h : knowI l (a : Nat) (b : Nat) = true
  · exact .inl ⟨h, by rw [mapK, foldK_get l PK_nil, if_pos h]⟩
  · exact .inr (by rw [mapK, foldK_get l PK_nil, if_neg h]; rfl)
/-- What was made: the chain, where each plate truly is, through whose hands it went, how often unwritten, how many were drawn. -/
structure Md where
  c : Ch
  has : List Nat
  hands : List Nat
  un : Nat
  t : Nat
structure Md.Ok (d : Md) : Prop where
  ti : TI d.c.pl.toNat d.c.ps.toNat d.c.kn d.c.rs d.has d.hands d.un
  h1 : 1 ≤ d.c.pl ∧ d.c.pl ≤ 4
  h2 : 1 ≤ d.c.ps ∧ d.c.ps ≤ 8
  kl : d.c.kn.length ≤ 28
  kv : ∀ k ∈ d.c.kn, badK d.c.ps k = false
  ms : (d.un : Int) ≤ d.c.ms ∧ d.c.ms ≤ 20
theorem made_ok {pl ps : Nat} {kn : List Kw} {rs : List Rc} {has hands : List Nat} {un t : Nat} {ms : Int} (h : TI pl ps kn rs has hands un) (h1 : 1 ≤ pl ∧ pl ≤ 4) (h2 : 1 ≤ ps ∧ ps ≤ 8) (hkl : kn.length ≤ 28) (hkv : ∀ k ∈ kn, badK (ps : Nat) k = false) (hms : (un : Int) ≤ ms ∧ ms ≤ 20) : (Md.mk ⟨pl, ps, kn, rs, ms⟩ has hands un t).Ok :=
  ⟨h, ⟨by show (1 : Int) ≤ (pl : Int); omega, by show (pl : Int) ≤ 4; omega⟩, ⟨by show (1 : Int) ≤ (ps : Int); omega, by show (ps : Int) ≤ 8; omega⟩, hkl, hkv, hms⟩
section
variable {d : Md} (h : d.Ok)
include h
theorem Md.Ok.mk_eq : d.c = Ch.mk (d.c.pl.toNat : Nat) (d.c.ps.toNat : Nat) d.c.kn d.c.rs d.c.ms := by
  have := h.h1; have := h.h2
  rw [Int.toNat_of_nonneg (by omega), Int.toNat_of_nonneg (by omega)]
theorem Md.Ok.kv2 : ∀ k ∈ d.c.kn, badK (d.c.ps.toNat : Nat) k = false := by
  have := h.h2
  rw [Int.toNat_of_nonneg (by omega)]; exact h.kv
theorem Md.Ok.n1 : 1 ≤ d.c.pl.toNat ∧ d.c.pl.toNat ≤ 4 := by have := h.h1; omega
theorem Md.Ok.n2 : 1 ≤ d.c.ps.toNat ∧ d.c.ps.toNat ≤ 8 := by have := h.h2; omega
theorem Md.Ok.valid : d.c.valid = true := by rw [h.mk_eq]; exact tr_valid h.ti h.n1 h.n2 h.kl h.kv2 h.ms
theorem Md.Ok.least : 0 ≤ leastC d.c ∧ leastC d.c ≤ d.un := by rw [h.mk_eq]; exact tr_least h.ti
theorem Md.Ok.drop : dropV d.c = 0 := by rw [h.mk_eq]; exact tr_drop h.ti h.n1 h.n2 h.kl h.kv2 h.ms
theorem Md.Ok.hlen : d.has.length ≤ d.c.pl.toNat ∧ d.c.pl.toNat ≤ d.has.length := by rw [h.ti.hl]; omega
theorem Md.Ok.dlen : d.hands.length ≤ d.c.pl.toNat ∧ d.c.pl.toNat ≤ d.hands.length := by rw [h.ti.dl]; omega
variable {p x m : Nat} (hx : d.has[p]? = some x) (hm : d.hands[p]? = some m)
include hx hm
omit hm in
theorem Md.Ok.x_lt : x < d.c.ps.toNat := h.ti.hr p x hx
omit hx in
theorem Md.Ok.m_lt : m < 256 := Nat.lt_of_lt_of_le (h.ti.dr p m hm) (Nat.pow_le_pow_right (by omega) h.n2.2)
theorem Md.Ok.whr : bitN (whereC d.c (p : Nat)) x = 1 := bitN_t (by rw [h.mk_eq]; exact tr_where h.ti h.ms hx hm)
theorem Md.Ok.sure : bitop .andNot .i64 ((setN (surQ d.c (p : Nat)) d.c.ps.toNat : Nat) : Int) (m : Int) = 0 := by
  have hn := h.n2
  have h8 := setN_lt (surQ d.c (p : Nat)) d.c.ps.toNat (by omega)
  have hm8 := h.m_lt hm
  rw [bitop_andNot_i64 _ _ (by omega) (by omega), sub_zero (by omega) (by omega) (by rw [h.mk_eq]; exact tr_sure h.ti h.ms hx hm)]; rfl
theorem Md.Ok.can : bitop .andNot .i64 (m : Int) ((setN (canQ d.c (p : Nat)) d.c.ps.toNat : Nat) : Int) = 0 := by
  have hn := h.n2
  have h8 := setN_lt (canQ d.c (p : Nat)) d.c.ps.toNat (by omega)
  have hm8 := h.m_lt hm
  rw [bitop_andNot_i64 _ _ (by omega) (by omega), sub_zero (by omega) (by omega) (by rw [h.mk_eq]; exact tr_can h.ti h.ms hx hm)]; rfl
theorem Md.Ok.hold {q : Nat} (hq : q < d.c.ps.toNat) : (bitN (sureH d.c q d.c.pl.toNat) p = 0 ∨ (bitN (sureH d.c q d.c.pl.toNat) p = 1 ∧ q = x)) ∧ (bitN (canH d.c q d.c.pl.toNat) p = 1 ∨ (bitN (canH d.c q d.c.pl.toNat) p = 0 ∧ q ≠ x)) := by
  have key : ((sureH d.c q d.c.pl.toNat).testBit p = true → q = x) ∧ ((canH d.c q d.c.pl.toNat).testBit p = false → q ≠ x) := by
    have := tr_holds h.ti h.n1 h.n2 h.kl h.kv2 h.ms hx hm hq
    rw [← h.mk_eq] at this
    exact this
  constructor
  · cases hb : (sureH d.c q d.c.pl.toNat).testBit p with
    | false => exact .inl (bitN_f hb)
    | true => exact .inr ⟨bitN_t hb, key.1 hb⟩
  · cases hb : (canH d.c q d.c.pl.toNat).testBit p with
    | true => exact .inl (bitN_t hb)
    | false => exact .inr ⟨bitN_f hb, key.2 hb⟩
end
end Go.Proofs.Ytagdholenfkeaaa

/- A rule of written-out states: leaving with four results that nobody turns, and objects. -/
namespace Go.Proofs.Ytagdholenfkeaaa
open Go.Gh
set_option maxRecDepth 100000
structure eK1 {α : Type} (a b : α) : Prop where
  h : a = b := by (simp only [gresult, gresL, gres1, tup_nil, tup_one, tup_two, gsem, gev, ofV, mkFr_cons, mkFr_nil, mkHp_cons, mkHp_nil, upd, yes, lift, gbinAt, gnilEq, gbin, gint, gshift, arith, gpick, gload, gstore, splice, gbox, gfill, placesL, gbuildSlice, gfieldAddr, gfield, gelem, gindexAddr, gindex, gbound, gslice, glen, gsource, gappend, gmin, gminL, gmax, gmaxL, mapGet, mapPut, zeroG, orZero, glookup, gmapUpdate, gconvert, gtypeAssert, gextract, isConst, gnilCheck, gunOp, gmakeSlice, intOf, mkAgg, mkFn, mkIface, mkTuple, allP, G.cells, good, goods, allOne, G.one, P.one, allP_p, allOne_p, goods_p, toPs_p, all_int, take_all, isAggD, isIfaceD, toP, toPs, P.size, P.cells, List.map_cons, List.map_nil, List.take_succ_cons, List.take_zero, List.drop_succ_cons, List.drop_zero, List.take_nil, List.drop_nil, List.cons_append, List.nil_append, List.append_nil, List.length_cons, List.length_nil, List.getElem?_cons_zero, List.getElem?_cons_succ, List.getElem?_nil, List.set_cons_zero, List.set_cons_succ, List.flatMap_cons, List.flatMap_nil, List.getElem?_toArray, List.getElem?_map, List.length_map, Option.map_some, Option.map_none, Nat.mul_one, List.length_set, set_map_p, set_map_int, Nat.reduceEqDiff, Nat.reduceAdd, Nat.reduceMul, Nat.reduceSub, Nat.reduceLeDiff, Nat.add_zero, Nat.zero_add, Int.toNat_natCast, Int.reduceToNat, reduceIte, reduceCtorEq, eq_self, if_true, if_false, and_true, true_and, true_or, or_true, or_false, false_or, Bool.false_eq_true, ne_eq, not_true_eq_false, not_false_eq_true, cond_true, cond_false, Bool.and_true, Bool.true_and, Bool.and_false, Bool.false_and, Bool.or_true, Bool.true_or, Bool.or_false, Bool.false_or, Bool.not_true, Bool.not_false, ti_1, ti_3, ti_4, ti_5, ti_9, ti_20, ti_22, ti_23, ti_25, ti_28, ti_32, ti_41, ti_44, ti_47, ti_49, ti_50, ti_52, ti_55, ti_57, ti_61, ti_62, ti_65, ti_66, ti_68, ti_69, ti_70, ti_74, ti_75, ti_77, ti_78, ti_81, ti_89, ti_92, ti_96, ti_100, ti_101, ti_102, ti_103, ti_105, ti_108, ti_113, ti_115, ti_116, ti_117, ti_118, ti_122, ti_124, ti_126, ti_128, ti_132, ti_133, ti_138, ti_140] <;> rfl)
structure eK2 {α : Type} (a b : α) : Prop where
  h : a = b := by (simp only [frIds, dfIds, gdIdl, obIdl, hpIds, restrictL, dedupL, pickL, subB, G.idl, G.idls, idls_p, List.nil_append, List.append_nil, List.cons_append, mkHp_cons, mkHp_nil, Nat.reduceEqDiff, reduceIte, List.mem_cons, List.not_mem_nil, or_false, or_true, true_or, false_or, List.filter_cons, List.filter_nil, ne_eq, not_true_eq_false, not_false_eq_true, decide_true, decide_false, Bool.false_eq_true, List.all_cons, List.all_nil, Bool.and_true] <;> rfl)
variable {E : Env Try.prog} {l : List (Nat × G)} {m : List (Nat × Ob)} {A : E.α} {g : G}
theorem fk4 (I : List Nat) {fn : Func} {R : GRes E → Prop} {d d' : Prop} {v : P} {m' : List (Nat × Ob)} {x1 x2 x3 x4 : ResultVar} (hrs : fn.results.toList = [x1, x2, x3, x4] := by rfl) (hg : gresult Try.prog (mkHp m) (mkFr l) [x1, x2, x3, x4] = some (d, g) := by exact eK1.h {})
    (hp : toP (mkHp m) g = some (d', v) := by (simp only [toP, toPs, mkHp_cons, mkHp_nil, Nat.reduceEqDiff, reduceIte, and_true, true_and] <;> rfl)) (hm : restrictL I m = m' := by exact eK2.h {}) (h3 : subB (hpIds m I) I = true := by exact eK2.h {}) (hne : ∀ i ∈ I, mkHp m i ≠ .none := by simp [mkHp_cons, mkHp_nil])
    (hR : R (.ok (.p v) (mkHp m') A)) (hd : d := by simp) (hd' : d' := by simp) : Fin Try.prog fn R (sg l m A []) := fin_pk (by rw [hrs]; exact hg) hd hp hd' hm h3 hne hR
end Go.Proofs.Ytagdholenfkeaaa

/- The statement ChainTrue: what is drawn and made. -/
namespace Go.Proofs.Ytagdholenfkeaaa
open Go.Gh
set_option maxRecDepth 100000
set_option maxHeartbeats 4000000
structure kLo1 (c : Prop) : Prop where
  h : c := by (first | exact True.intro | omega | (simp only [inI]; omega) | (simp [P.size, pr, pk, all_int, allOne_p, goods_p, allOne, goods, good, G.one, P.one, P.cells] <;> first | omega | assumption | simp_all))
structure kLo2 (c : Prop) : Prop where
  h : c := by (first | exact True.intro | omega | exact hkk _ _ | exact keys50 (mapK_PK _) | exact ⟨trivial, keys50 (mapK_PK _)⟩ | exact keys50 (PK_put (mapK_PK _)) | exact ⟨trivial, keys50 (PK_put (mapK_PK _))⟩ | (simp only [inI]; omega) | (simp [P.size, pr, pk, all_int, allOne_p, goods_p, allOne, goods, good, G.one, P.one, P.cells] <;> first | omega | assumption | simp_all))
theorem nd_t {p : Prop} [Decidable p] (h : ¬ p) : (!decide p) = true := by rw [decide_eq_false h]; rfl
theorem nd_f {p : Prop} [Decidable p] (h : p) : (!decide p) = false := by rw [decide_eq_true h]; rfl
theorem one_map {ps : List P} (h : ∀ x ∈ ps, x.one = true) (n : Nat) : allOne ((ps.map G.p).take n) = true := by
  rw [← List.map_take, allOne_p, List.all_eq_true]
  exact fun x hx => h x (List.mem_of_mem_take hx)
theorem ints_one (l : List Int) : ∀ x ∈ l.map (P.int .i64), x.one = true := fun x hx => by
  obtain ⟨i, _, rfl⟩ := List.mem_map.1 hx; rfl
theorem maxLen_le : maxLen ≤ 9223372036854775807 := by decide
theorem ent34 : Enters Try.prog 34 := Enters.mk Try.func34 (by kernel_rfl) rfl
theorem c_draws {E : Env Try.prog} {A : E.α} (bs : List Int) : Gh.Spec E 34 [.p (.list (bs.map (.int .u16)))] (mkHp []) A (fun y => y = .ok (.fn (.func 94) [] [.ref 130 0, .ref 110 0]) (mkHp [(130, .cells [.p (.int .i64 0)] 0), (110, .cells [.p (.list (bs.map (.int .u16)))] 0)]) A) := by
  refine spec_of Try.func34 (rfl : Try.f34.body = some _) (Nat.le_of_ble_eq_true rfl) (fun id h => ?_) (fun j id h => ?_) ?_
  · exact wf1x h
  · exact wf2x h
  intro C hN hL
  replace hN : C.N = 5 := hN
  simp only [Gh.num, List.map_cons, List.map_nil, Nat.reduceAdd]
  repeat refine gwp_seq ?_
  refine gwp_region ?_
  refine n1 110 false (hc := kLo1.h {}) (k := ?_)
  refine v0 (k := ?_)
  refine nil0 ?_
  refine cl [1] (k := ?_)
  repeat refine gwp_seq ?_
  refine gwp_region ?_
  refine n1 130 false (hc := kLo1.h {}) (k := ?_)
  refine s1 (hc := kLo1.h {}) (k := ?_)
  refine nil0 ?_
  refine cl [1, 3] (k := ?_)
  repeat refine gwp_seq ?_
  refine gwp_region ?_
  refine v0 (k := ?_)
  refine v0 (k := ?_)
  refine nil0 ?_
  repeat refine gwp_seq ?_
  refine gwp_ret ?_
  repeat (first | refine gthen_ret ?_ | refine gblock_ret ?_ | refine gnoGoto_ret ?_)
  refine fin_ret ?_
  refine fh [130, 110] (hR := ?_)
  rfl
theorem ent94 : Enters Try.prog 94 := Enters.mk Try.func94 (by kernel_rfl) rfl
theorem c_draw {E : Env Try.prog} {A : E.α} (bs : List Int) (hbl : 0 < bs.length) (hbm : bs.length ≤ maxLen) (hq1 : ∀ b ∈ bs, 0 ≤ b) (hq2 : ∀ b ∈ bs, b ≤ 65535) (t n : Nat) (ht : t ≤ 1000) (hn : 0 < n) (hn2 : n ≤ 1000) : Gh.Spec E 94 [.p (.int .i64 (n : Nat)), .ref 0 0, .ref 1 0] (mkHp [(0, .cells [.p (.int .i64 (t : Nat))] 0), (1, .cells [.p (.list (bs.map (.int .u16)))] 0)]) A (fun y => y = .ok (.p (.int .i64 (drawN bs (t + 1) n : Nat))) (mkHp [(0, .cells [.p (.int .i64 (t + 1 : Nat))] 0), (1, .cells [.p (.list (bs.map (.int .u16)))] 0)]) A) := by
  refine spec_of Try.func94 (rfl : Try.f94.body = some _) (Nat.le_of_ble_eq_true rfl) (fun id h => ?_) (fun j id h => ?_) ?_
  · exact wf1x h
  · exact wf2x h
  intro C hN hL
  replace hN : C.N = 20 := hN
  simp only [Gh.num, List.map_cons, List.map_nil, Nat.reduceAdd]
  have hdt : ∀ (i : Decidable True), @decide True i = true := fun i => decide_eq_true trivial
  have hdf : ∀ (i : Decidable False), @decide False i = false := fun i => decide_eq_false id
  have hml := maxLen_le
  repeat refine gwp_seq ?_
  refine gwp_region ?_
  refine v0 (k := ?_)
  refine nil0 ?_
  refine cl [0, 1, 2] (k := ?_)
  repeat refine gwp_seq ?_
  refine gwp_region ?_
  refine v0 (k := ?_)
  refine v1 (hc := kLo1.h {}) (k := ?_)
  refine s1 (hc := kLo1.h {}) (k := ?_)
  refine nil0 ?_
  refine cl [0, 1, 2] (k := ?_)
  repeat refine gwp_seq ?_
  obtain ⟨j, hj⟩ : ∃ q, (t + 1) % bs.length = q := ⟨_, rfl⟩
  have hjl : j < bs.length := hj ▸ Nat.mod_lt _ hbl
  have hm1 : ((t : Int) + 1).tmod (bs.length : Int) = (j : Int) := by have := tmod_n (t + 1) bs.length; rw [hj] at this; exact this
  obtain ⟨v, hu⟩ := getE (l := bs) (k := j) (by omega)
  have hv0 := hq1 v (List.mem_of_getElem? hu)
  have hv1 := hq2 v (List.mem_of_getElem? hu)
  obtain ⟨u, rfl⟩ : ∃ u : Nat, v = u := ⟨v.toNat, by omega⟩
  have hm2 : ((u : Int) + 41 * ((t : Int) + 1)).tmod (n : Int) = ((drawN bs (t + 1) n : Nat) : Int) := drawN_at (bs := bs) (t := t + 1) (by rw [hj]; exact hu)
  refine rd ?_
  refine d0 0 (k := ?_)
  refine d0 1 (k := ?_)
  refine d0 2 (k := ?_)
  refine d0 3 (k := ?_)
  refine d1 4 (hc := kLo1.h {}) (k := ?_)
  refine d1 5 (hc := kLo1.h {}) (k := ?_)
  refine d0 6 (k := ?_)
  refine d1 7 (hc := kLo1.h {}) (k := ?_)
  refine d0 8 (k := ?_)
  refine d1 9 (hc := kLo1.h {}) (k := ?_)
  refine d1 10 (hc := kLo1.h {}) (k := ?_)
  refine d0 11 (k := ?_)
  refine d1 12 (hc := kLo1.h {}) (k := ?_)
  refine d0 13 (k := ?_)
  refine dz 14 [0, 0, 0, 4, 14, 31, 63, 127, 0, 256, 1023, 0, 4095, 8191] (h := ?_)
  refine de 14 (h := ?_)
  repeat refine gwp_seq ?_
  refine gwp_ret ?_
  repeat (first | refine gthen_ret ?_ | refine gblock_ret ?_ | refine gnoGoto_ret ?_)
  refine fin_ret ?_
  refine fh [0, 1] (hR := ?_)
  rfl
theorem ent33 : Enters Try.prog 33 := Enters.mk Try.func33 (by kernel_rfl) rfl
theorem c_made {E : Env Try.prog} {A : E.α} (bs : List Int) (hbl : 0 < bs.length) (hbm : bs.length ≤ maxLen) (hq1 : ∀ b ∈ bs, 0 ≤ b) (hq2 : ∀ b ∈ bs, b ≤ 65535) (t0 : Nat) (ht0 : t0 ≤ 100) : Gh.Spec E 33 [.fn (.func 94) [] [.ref 0 0, .ref 1 0]] (mkHp [(0, .cells [.p (.int .i64 (t0 : Nat))] 0), (1, .cells [.p (.list (bs.map (.int .u16)))] 0)]) A (fun y => ∃ d : Md, d.Ok ∧ y = .ok (.p (.tuple [.agg [.int .i64 d.c.pl, .int .i64 d.c.ps, .list (d.c.kn.map pk), .list (d.c.rs.map pr), .int .i64 d.c.ms], .list ((natI d.has).map (.int .i64)), .list ((natI d.hands).map (.int .i64)), .int .i64 (d.un : Nat)])) (mkHp [(0, .cells [.p (.int .i64 (d.t : Nat))] 0), (1, .cells [.p (.list (bs.map (.int .u16)))] 0)]) A) := by
  refine spec_of Try.func33 (rfl : Try.f33.body = some _) (Nat.le_of_ble_eq_true rfl) (fun id h => ?_) (fun j id h => ?_) ?_
  · exact wf1x h
  · exact wf2x h
  intro C hN hL
  replace hN : C.N = 140 := hN
  simp only [Gh.num, List.map_cons, List.map_nil, Nat.reduceAdd]
  have hdt : ∀ (i : Decidable True), @decide True i = true := fun i => decide_eq_true trivial
  have hdf : ∀ (i : Decidable False), @decide False i = false := fun i => decide_eq_false id
  have hbt : (true == true) = true := rfl
  have hbf : (false == false) = true := rfl
  have htf : (true == false) = false := rfl
  have hft : (false == true) = false := rfl
  have hpk : ∀ k : Kw, pk k = P.agg [.int .i64 k.a, .int .i64 k.b] := fun _ => rfl
  have hpr : ∀ r : Rc, pr r = P.agg [.int .i64 r.p, .int .i64 r.f, .int .i64 r.t] := fun _ => rfl
  repeat refine gwp_seq ?_
  refine gwp_region ?_
  refine n1 120 false (hc := kLo2.h {}) (k := ?_)
  refine v0 (k := ?_)
  refine v0 (k := ?_)
  refine v0 (k := ?_)
  refine nil0 ?_
  refine cl [0, 2, 5] (k := ?_)
  repeat refine gwp_seq ?_
  have hd1 := drawN_lt bs (t0 + 1) (n := 4) (by omega)
  have hd2 := drawN_lt bs (t0 + 1 + 1) (n := 8) (by omega)
  refine gwp_region ?_
  refine v0 (k := ?_)
  refine oc0 [(0, 0), (1, 1)] [] [0, 0, 0] none (spec := c_draw bs hbl hbm hq1 hq2 (t0) (4) (by omega) (by omega) (by omega)) (hent := ent94) (k := ?_)
  refine v1 (hc := kLo2.h {}) (k := ?_)
  refine v0 (k := ?_)
  refine oc0 [(0, 0), (1, 1)] [] [0, 0, 0] none (spec := c_draw bs hbl hbm hq1 hq2 (t0 + 1) (8) (by omega) (by omega) (by omega)) (hent := ent94) (k := ?_)
  refine v1 (hc := kLo2.h {}) (k := ?_)
  refine v0 (k := ?_)
  refine s1 (hc := kLo2.h {}) (k := ?_)
  refine v0 (k := ?_)
  refine s1 (hc := kLo2.h {}) (k := ?_)
  refine nil0 ?_
  refine cl [0, 2, 5] (k := ?_)
  repeat refine gwp_seq ?_
  clear hd1 hd2
  obtain ⟨w1, hw1⟩ : ∃ q, drawN bs (t0 + 1) 4 = q := ⟨_, rfl⟩
  rw [hw1]
  have hlw1 : w1 < 4 := hw1 ▸ drawN_lt bs _ (by omega)
  clear hw1
  obtain ⟨w2, hw2⟩ : ∃ q, drawN bs (t0 + 1 + 1) 8 = q := ⟨_, rfl⟩
  rw [hw2]
  have hlw2 : w2 < 8 := hw2 ▸ drawN_lt bs _ (by omega)
  clear hw2
  obtain ⟨pl, hpl⟩ : ∃ q : Nat, q = 1 + w1 := ⟨_, rfl⟩
  obtain ⟨ps, hps⟩ : ∃ q : Nat, q = 1 + w2 := ⟨_, rfl⟩
  rw [show (1 : Int) + ((w1 : Nat) : Int) = ((pl : Nat) : Int) by omega, show (1 : Int) + ((w2 : Nat) : Int) = ((ps : Nat) : Int) by omega]
  have hpl1 : 1 ≤ pl ∧ pl ≤ 4 := by omega
  have hps1 : 1 ≤ ps ∧ ps ≤ 8 := by omega
  clear hpl hps
  refine ad 120 2 3000 50 2 true (k := ?_)
  refine ad 120 3 3010 52 3 true (k := ?_)
  refine gwp_region ?_
  refine n1 310 false (hc := kLo2.h {}) (k := ?_)
  refine v0 (k := ?_)
  refine nil0 ?_
  refine cl [0, 2, 5, 6] (k := ?_)
  repeat refine gwp_seq ?_
  obtain ⟨w3, hw3⟩ : ∃ q, drawN bs (t0 + 1 + 1 + 1) 14 = q := ⟨_, rfl⟩
  have hlw3 : w3 < 14 := hw3 ▸ drawN_lt bs _ (by omega)
  refine gwp_region ?_
  refine v0 (k := ?_)
  refine oc0 [(0, 0), (1, 1)] [] [0, 0, 0] none (spec := c_draw bs hbl hbm hq1 hq2 (t0 + 1 + 1) (14) (by omega) (by omega) (by omega)) (hent := ent94) (k := ?_)
  refine v0 (k := ?_)
  refine nil0 ?_
  refine cl [0, 2, 5, 6, 23, 24] (k := ?_)
  repeat refine gwp_seq ?_
  refine gwp_block ?_
  repeat refine gwp_seq ?_
  refine gc_loop (fun mz σ => ∃ (i t : Nat) (kn : List Kw), (i ≤ w3) ∧ (t ≤ t0 + 3 + 2 * i) ∧ (kn.length ≤ i) ∧ (∀ k ∈ kn, badK (ps : Nat) k = false) ∧ mz = w3 - i ∧ σ = (sg [(0, .fn (.func 94) [] [.ref 0 0, .ref 1 0]), (2, .ref 120 0), (5, .p (.int .i64 0)), (6, .map 310), (23, .p (.int .i64 (w3 : Nat))), (24, .p (.int .i64 (i : Nat)))] [(0, .cells [.p (.int .i64 (t : Nat))] 0), (1, .cells [.p (.list (bs.map (.int .u16)))] 0), (120, .cells [.p (.int .i64 (pl : Nat)), .p (.int .i64 (ps : Nat)), .own 3000 kn.length, .own 3010 0, .p (.int .i64 0)] 0), (310, .map (mapK kn)), (3000, .arr 50 2 (kn.map pk) true), (3010, .arr 52 3 (([] : List Rc).map pr) true)] A [] : Sg E)) ?_ (fun mz σ hI => ?_)
  · refine lbeg [0, 2, 5, 6, 23, 24] (hV := ?_)
    exact ⟨_, 0, t0 + 1 + 1 + 1, [], by omega, by omega, by simp, fun k h => by simp at h, rfl, sgE (by rw [hw3]; rfl) rfl⟩
  obtain ⟨i, t, kn, hi, ht, hkl, hkv, hnn, rfl⟩ := hI
  repeat refine gwp_seq ?_
  refine gwp_region ?_
  refine v0 (k := ?_)
  refine nil0 ?_
  repeat refine gwp_seq ?_
  refine cB (k1 := fun hb1 => ?_) (k0 := fun hb1 => ?_)
  · replace hb1 := hB.h {} hb1
    repeat refine gwp_seq ?_
    refine gwp_skip ?_
    refine cl [0, 2, 5, 6, 23, 24] (k := ?_)
    repeat refine gwp_seq ?_
    refine gwp_block ?_
    repeat refine gwp_seq ?_
    refine rd ?_
    refine da0 0 (k := ?_)
    refine da0 1 (k := ?_)
    refine d0 2 (k := ?_)
    refine doc0 3 [(0, 0), (1, 1)] [] [0, 0, 0] none (spec := c_draw bs hbl hbm hq1 hq2 (t) (ps) (by omega) (by omega) (by omega)) (hent := ent94) (k := ?_)
    refine da0 4 (k := ?_)
    refine da0 5 (k := ?_)
    refine d0 6 (k := ?_)
    refine doc0 7 [(0, 0), (1, 1)] [] [0, 0, 0] none (spec := c_draw bs hbl hbm hq1 hq2 (t + 1) (ps) (by omega) (by omega) (by omega)) (hent := ent94) (k := ?_)
    refine da0 8 (k := ?_)
    refine da0 9 (k := ?_)
    refine dz 10 [0, 0, 2, 7, 0, 0, 32, 127, 255, 511] (h := ?_)
    refine de 10 (h := ?_)
    refine cl [0, 2, 5, 6, 7, 8, 23, 24] (k := ?_)
    repeat refine gwp_seq ?_
    obtain ⟨a, ha⟩ : ∃ q, drawN bs (t + 1) ps = q := ⟨_, rfl⟩
    rw [ha]
    have hla : a < ps := ha ▸ drawN_lt bs _ (by omega)
    clear ha
    obtain ⟨b, hb⟩ : ∃ q, drawN bs (t + 1 + 1) ps = q := ⟨_, rfl⟩
    rw [hb]
    have hlb : b < ps := hb ▸ drawN_lt bs _ (by omega)
    clear hb
    refine gwp_region ?_
    refine v0 (k := ?_)
    refine v0 (k := ?_)
    refine v0 (k := ?_)
    refine nil0 ?_
    repeat refine gwp_seq ?_
    refine cB (k1 := fun hb2 => ?_) (k0 := fun hb2 => ?_)
    · replace hb2 := hB.h {} hb2
      repeat refine gwp_seq ?_
      refine gwp_region ?_
      refine v0 (k := ?_)
      refine v0 (k := ?_)
      refine v0 (k := ?_)
      refine v0 (k := ?_)
      refine v0 (k := ?_)
      refine n1 520 false (hc := kLo2.h {}) (k := ?_)
      refine n1 530 false (hc := kLo2.h {}) (k := ?_)
      refine v0 (k := ?_)
      refine s1 (hc := kLo2.h {}) (k := ?_)
      refine nil0 ?_
      refine cl [0, 2, 5, 6, 7, 8, 23, 24] (k := ?_)
      repeat refine gwp_seq ?_
      refine gwp_region ?_
      refine v0 (k := ?_)
      refine v0 (k := ?_)
      refine v0 (k := ?_)
      refine v0 (k := ?_)
      refine v0 (k := ?_)
      refine v0 (k := ?_)
      refine v0 (k := ?_)
      refine v0 (k := ?_)
      refine s1 (hc := kLo2.h {}) (k := ?_)
      refine s1 (hc := kLo2.h {}) (k := ?_)
      refine nil0 ?_
      refine cl [0, 2, 5, 6, 23, 24] (k := ?_)
      repeat refine gwp_seq ?_
      refine gwp_region ?_
      refine v1 (hc := kLo2.h {}) (k := ?_)
      refine v0 (k := ?_)
      refine nil0 ?_
      refine lend [0, 2, 5, 6, 23, 24] (h := ?_) (hV := ?_) (n' := w3 - (i + 1))
      · omega
      first
      | exact ⟨i + 1, t + 1 + 1, kn ++ [⟨a, b⟩], by omega, by omega, by rw [List.length_append, List.length_cons, List.length_nil]; omega, badK_snoc hkv (by omega) (by omega) (by omega), rfl, sgE rfl (by rw [mapK_snoc, List.map_append, List.length_append]; rfl)⟩
      | exact ⟨i + 1, t + 1 + 1, kn, by omega, by omega, by omega, hkv, rfl, rfl⟩
    · replace hb2 := hB.h {} hb2
      repeat refine gwp_seq ?_
      refine gwp_skip ?_
      refine cl [0, 2, 5, 6, 23, 24] (k := ?_)
      repeat refine gwp_seq ?_
      refine gwp_region ?_
      refine v1 (hc := kLo2.h {}) (k := ?_)
      refine v0 (k := ?_)
      refine nil0 ?_
      refine lend [0, 2, 5, 6, 23, 24] (h := ?_) (hV := ?_) (n' := w3 - (i + 1))
      · omega
      first
      | exact ⟨i + 1, t + 1 + 1, kn ++ [⟨a, b⟩], by omega, by omega, by rw [List.length_append, List.length_cons, List.length_nil]; omega, badK_snoc hkv (by omega) (by omega) (by omega), rfl, sgE rfl (by rw [mapK_snoc, List.map_append, List.length_append]; rfl)⟩
      | exact ⟨i + 1, t + 1 + 1, kn, by omega, by omega, by omega, hkv, rfl, rfl⟩
  · replace hb1 := hB.h {} hb1
    repeat refine gwp_seq ?_
    refine gwp_exit ?_
    repeat (first | refine gthen_exit ?_ | refine gnoGoto_exit ?_ | refine gblock_here ?_ | refine gblock_out rfl ?_)
    refine cl [0, 2, 5, 6] (k := ?_)
    repeat refine gwp_seq ?_
    refine rd ?_
    refine d0 0 (k := ?_)
    refine d0 1 (k := ?_)
    refine dn1 2 660 false (hc := kLo2.h {}) (k := ?_)
    refine d0 3 (k := ?_)
    refine d0 4 (k := ?_)
    refine dn1 5 690 false (hc := kLo2.h {}) (k := ?_)
    rw [mk0]
    refine d0 6 (k := ?_)
    refine d0 7 (k := ?_)
    refine dz 8 [0, 1, 3, 0, 8, 24, 7, 127] (h := ?_)
    refine de 8 (h := ?_)
    refine cl [0, 2, 3, 4, 5, 6] (k := ?_)
    repeat refine gwp_seq ?_
    refine gwp_region ?_
    refine v0 (k := ?_)
    refine v0 (k := ?_)
    refine v0 (k := ?_)
    refine nil0 ?_
    refine cl [0, 2, 3, 4, 5, 6, 61, 62] (k := ?_)
    repeat refine gwp_seq ?_
    refine gwp_block ?_
    repeat refine gwp_seq ?_
    refine gc_loop (fun mz σ => ∃ (i : Nat) (zs : List Int), (i ≤ pl) ∧ (zs.length ≤ pl) ∧ (pl ≤ zs.length) ∧ (∀ j : Nat, j < i → zs[j]? = some 1) ∧ mz = pl - i ∧ σ = (sg [(0, .fn (.func 94) [] [.ref 0 0, .ref 1 0]), (2, .ref 120 0), (3, .fsl 660 0 pl), (4, .fsl 690 0 pl), (5, .p (.int .i64 0)), (6, .map 310), (61, .p (.int .i64 (pl : Nat))), (62, .p (.int .i64 (i : Nat)))] [(0, .cells [.p (.int .i64 (t : Nat))] 0), (1, .cells [.p (.list (bs.map (.int .u16)))] 0), (120, .cells [.p (.int .i64 (pl : Nat)), .p (.int .i64 (ps : Nat)), .own 3000 kn.length, .own 3010 0, .p (.int .i64 0)] 0), (660, .cells (((natI (List.replicate pl 0)).map (P.int .i64)).map G.p) 0), (690, .cells ((zs.map (P.int .i64)).map G.p) 0), (310, .map (mapK kn)), (3000, .arr 50 2 (kn.map pk) true), (3010, .arr 52 3 (([] : List Rc).map pr) true)] A [] : Sg E)) ?_ (fun mz σ hI => ?_)
    · refine lbeg [0, 2, 3, 4, 5, 6, 61, 62] (hV := ?_)
      exact ⟨_, 0, natI (List.replicate pl 0), by omega, by simp [natI], by simp [natI], fun j h => by omega, rfl, rfl⟩
    obtain ⟨i, zs, hi, hz1, hz2, hzj, hnn, rfl⟩ := hI
    repeat refine gwp_seq ?_
    refine gwp_region ?_
    refine v0 (k := ?_)
    refine nil0 ?_
    repeat refine gwp_seq ?_
    refine cB (k1 := fun hb3 => ?_) (k0 := fun hb3 => ?_)
    · replace hb3 := hB.h {} hb3
      repeat refine gwp_seq ?_
      refine gwp_skip ?_
      refine cl [0, 2, 3, 4, 5, 6, 61, 62] (k := ?_)
      repeat refine gwp_seq ?_
      refine gwp_block ?_
      repeat refine gwp_seq ?_
      refine gwp_region ?_
      refine v0 (k := ?_)
      refine v0 (k := ?_)
      refine nil0 ?_
      refine cl [0, 2, 3, 4, 5, 6, 9, 61, 62] (k := ?_)
      repeat refine gwp_seq ?_
      refine gwp_region ?_
      refine v0 (k := ?_)
      refine v0 (k := ?_)
      refine v1 (hc := kLo2.h {}) (k := ?_)
      refine s1 (hc := kLo2.h {}) (k := ?_)
      refine nil0 ?_
      refine cl [0, 2, 3, 4, 5, 6, 61, 62] (k := ?_)
      repeat refine gwp_seq ?_
      refine gwp_region ?_
      refine v1 (hc := kLo2.h {}) (k := ?_)
      refine v0 (k := ?_)
      refine nil0 ?_
      refine lend [0, 2, 3, 4, 5, 6, 61, 62] (h := ?_) (hV := ?_) (n' := pl - (i + 1))
      · omega
      exact ⟨i + 1, zs.set i 1, by omega, by simp; omega, by simp; omega, set_one (n := pl) (by omega) (by omega) hzj, rfl, rfl⟩
    · replace hb3 := hB.h {} hb3
      repeat refine gwp_seq ?_
      refine gwp_exit ?_
      repeat (first | refine gthen_exit ?_ | refine gnoGoto_exit ?_ | refine gblock_here ?_ | refine gblock_out rfl ?_)
      refine cl [0, 2, 3, 4, 5, 6] (k := ?_)
      repeat refine gwp_seq ?_
      obtain rfl := all_one (n := pl) (by omega) (show ∀ j : Nat, j < pl → _ from fun j hj => hzj j (by omega))
      obtain ⟨w4, hw4⟩ : ∃ q, drawN bs (t + 1) 20 = q := ⟨_, rfl⟩
      have hlw4 : w4 < 20 := hw4 ▸ drawN_lt bs _ (by omega)
      refine gwp_region ?_
      refine v0 (k := ?_)
      refine oc0 [(0, 0), (1, 1)] [] [0, 0, 0] none (spec := c_draw bs hbl hbm hq1 hq2 (t) (20) (by omega) (by omega) (by omega)) (hent := ent94) (k := ?_)
      refine v0 (k := ?_)
      refine nil0 ?_
      refine cl [0, 2, 3, 4, 5, 6, 70, 71] (k := ?_)
      repeat refine gwp_seq ?_
      refine gwp_block ?_
      repeat refine gwp_seq ?_
      refine gc_loop (fun mz σ => ∃ (i u : Nat) (rs : List Rc) (has hands : List Nat) (un : Nat), (i ≤ w4) ∧ (u ≤ t + 1 + 3 * i) ∧ (TI pl ps kn rs has hands un) ∧ mz = w4 - i ∧ σ = (sg [(0, .fn (.func 94) [] [.ref 0 0, .ref 1 0]), (2, .ref 120 0), (3, .fsl 660 0 pl), (4, .fsl 690 0 pl), (5, .p (.int .i64 (un : Nat))), (6, .map 310), (70, .p (.int .i64 (w4 : Nat))), (71, .p (.int .i64 (i : Nat)))] [(0, .cells [.p (.int .i64 (u : Nat))] 0), (1, .cells [.p (.list (bs.map (.int .u16)))] 0), (120, .cells [.p (.int .i64 (pl : Nat)), .p (.int .i64 (ps : Nat)), .own 3000 kn.length, .own 3010 rs.length, .p (.int .i64 0)] 0), (660, .cells (((natI has).map (P.int .i64)).map G.p) 0), (690, .cells (((natI hands).map (P.int .i64)).map G.p) 0), (310, .map (mapK kn)), (3000, .arr 50 2 (kn.map pk) true), (3010, .arr 52 3 (rs.map pr) true)] A [] : Sg E)) ?_ (fun mz σ hI => ?_)
      · refine lbeg [0, 2, 3, 4, 5, 6, 70, 71] (hV := ?_)
        exact ⟨_, 0, t + 1, [], List.replicate pl 0, List.replicate pl 1, 0, by omega, by omega, TI.zero (by omega), rfl, sgE (by rw [hw4]; rfl) rfl⟩
      obtain ⟨i, u, rs, has, hands, un, hi, hu, hM, hnn, rfl⟩ := hI
      have hhl1 := Nat.le_of_eq hM.hl
      have hhl2 := Nat.le_of_eq hM.hl.symm
      have hdl1 := Nat.le_of_eq hM.dl
      have hdl2 := Nat.le_of_eq hM.dl.symm
      have hnh := natI_len has
      have hnd := natI_len hands
      have hrl := hM.rl
      have hul := hM.ul
      repeat refine gwp_seq ?_
      refine gwp_region ?_
      refine v0 (k := ?_)
      refine nil0 ?_
      repeat refine gwp_seq ?_
      refine cB (k1 := fun hb4 => ?_) (k0 := fun hb4 => ?_)
      · replace hb4 := hB.h {} hb4
        repeat refine gwp_seq ?_
        refine gwp_skip ?_
        refine cl [0, 2, 3, 4, 5, 6, 70, 71] (k := ?_)
        repeat refine gwp_seq ?_
        refine gwp_block ?_
        repeat refine gwp_seq ?_
        refine rd ?_
        refine da0 0 (k := ?_)
        refine da0 1 (k := ?_)
        refine d0 2 (k := ?_)
        refine doc0 3 [(0, 0), (1, 1)] [] [0, 0, 0] none (spec := c_draw bs hbl hbm hq1 hq2 (u) (pl) (by omega) (by omega) (by omega)) (hent := ent94) (k := ?_)
        refine da0 4 (k := ?_)
        refine da0 5 (k := ?_)
        refine d0 6 (k := ?_)
        refine doc0 7 [(0, 0), (1, 1)] [] [0, 0, 0] none (spec := c_draw bs hbl hbm hq1 hq2 (u + 1) (ps) (by omega) (by omega) (by omega)) (hent := ent94) (k := ?_)
        refine da0 8 (k := ?_)
        refine da0 9 (k := ?_)
        refine dz 10 [0, 0, 2, 7, 0, 0, 32, 127, 255, 511] (h := ?_)
        refine de 10 (h := ?_)
        refine cl [0, 2, 3, 4, 5, 6, 10, 11, 70, 71] (k := ?_)
        repeat refine gwp_seq ?_
        obtain ⟨p, hp⟩ : ∃ q, drawN bs (u + 1) pl = q := ⟨_, rfl⟩
        rw [hp]
        have hlp : p < pl := hp ▸ drawN_lt bs _ (by omega)
        clear hp
        obtain ⟨y, hy⟩ : ∃ q, drawN bs (u + 1 + 1) ps = q := ⟨_, rfl⟩
        rw [hy]
        have hly : y < ps := hy ▸ drawN_lt bs _ (by omega)
        clear hy
        obtain ⟨x, hx⟩ := getE (l := has) (k := p) (by omega)
        obtain ⟨m, hm⟩ := getE (l := hands) (k := p) (by omega)
        have hx2 := natI_get hx
        have hm2 := natI_get hm
        have hxp := hM.hr p x hx
        have hm8 : m < 256 := Nat.lt_of_lt_of_le (hM.dr p m hm) (Nat.pow_le_pow_right (by omega) (show ps ≤ 8 by omega))
        refine gwp_region ?_
        refine v0 (k := ?_)
        refine v0 (k := ?_)
        refine v1 (hc := kLo2.h {}) (k := ?_)
        refine v0 (k := ?_)
        refine v0 (k := ?_)
        refine nil0 ?_
        refine cl [0, 2, 3, 4, 5, 6, 10, 11, 12, 70, 71] (k := ?_)
        repeat refine gwp_seq ?_
        refine gwp_region ?_
        refine v0 (k := ?_)
        refine v0 (k := ?_)
        refine v0 (k := ?_)
        refine nil0 ?_
        repeat refine gwp_seq ?_
        refine cB (k1 := fun hb5 => ?_) (k0 := fun hb5 => ?_)
        · replace hb5 := hB.h {} hb5
          repeat refine gwp_seq ?_
          refine gwp_exit ?_
          repeat (first | refine gthen_exit ?_ | refine gnoGoto_exit ?_ | refine gblock_here ?_ | refine gblock_out rfl ?_)
          refine cl [0, 2, 3, 4, 5, 6, 70, 71] (k := ?_)
          repeat refine gwp_seq ?_
          refine gwp_region ?_
          refine v1 (hc := kLo2.h {}) (k := ?_)
          refine v0 (k := ?_)
          refine nil0 ?_
          refine lend [0, 2, 3, 4, 5, 6, 70, 71] (h := ?_) (hV := ?_) (n' := w4 - (i + 1))
          · omega
          first
          | exact ⟨i + 1, u + 1 + 1 + 1, rs, has.set p y, hands.set p (m ||| 2 ^ y), un + 1, by omega, by omega, hM.unwr hx hm (by omega) (by omega) hknow (by omega), rfl, sgE rfl (by rw [natI_set, natI_set])⟩
          | exact ⟨i + 1, u + 1 + 1, rs ++ [⟨(p : Nat), (x : Nat), (y : Nat)⟩], has.set p y, hands.set p (m ||| 2 ^ y), un, by omega, by omega, hM.wrt hx hm (by omega) (by omega) (by omega) (by omega) (by omega), rfl, sgE rfl (by rw [natI_set, natI_set, List.map_append, List.length_append]; rfl)⟩
          | exact ⟨i + 1, u + 1 + 1 + 1, rs ++ [⟨(p : Nat), (x : Nat), (y : Nat)⟩], has.set p y, hands.set p (m ||| 2 ^ y), un, by omega, by omega, hM.wrt hx hm (by omega) (by omega) (by omega) (by omega) (by omega), rfl, sgE rfl (by rw [natI_set, natI_set, List.map_append, List.length_append]; rfl)⟩
          | exact ⟨i + 1, u + 1 + 1, rs, has, hands, un, by omega, by omega, hM, rfl, rfl⟩
          | exact ⟨i + 1, u + 1 + 1 + 1, rs, has, hands, un, by omega, by omega, hM, rfl, rfl⟩
        · replace hb5 := hB.h {} hb5
          repeat refine gwp_seq ?_
          refine gwp_skip ?_
          refine cl [0, 2, 3, 4, 5, 6, 10, 11, 12, 70, 71] (k := ?_)
          repeat refine gwp_seq ?_
          rcases knw_or kn x y with ⟨hknow, hmg⟩ | hmg
          · repeat refine gwp_seq ?_
            refine gwp_region ?_
            refine v0 (k := ?_)
            refine v0 (k := ?_)
            refine v0 (k := ?_)
            refine v0 (k := ?_)
            refine v1 (hc := kLo2.h {}) (k := ?_)
            refine rb 92 true (h := by (rfl)) (k := ?_)
            refine v0 (k := ?_)
            refine w0 (k := ?_)
            refine w0 (k := ?_)
            refine v0 (k := ?_)
            refine v0 (k := ?_)
            refine b0 (k1 := fun hb6 => ?_) (k0 := fun hb6 => ?_)
            · replace hb6 := hB.h {} hb6
              refine w0 (k := ?_)
              refine ocw [(0, 0), (1, 1)] [] [0, 0, 0] none (spec := c_draw bs hbl hbm hq1 hq2 (u + 1 + 1) (3) (by omega) (by omega) (by omega)) (hent := ent94) (k := ?_)
              refine w0 (k := ?_)
              refine v0 (k := ?_)
              refine nil0 ?_
              repeat refine gwp_seq ?_
              refine cB (k1 := fun hb7 => ?_) (k0 := fun hb7 => ?_)
              · replace hb7 := hB.h {} hb7
                repeat refine gwp_seq ?_
                refine gwp_region ?_
                refine v0 (k := ?_)
                refine v1 (hc := kLo2.h {}) (k := ?_)
                refine v0 (k := ?_)
                refine nil0 ?_
                refine cl [0, 2, 3, 4, 5, 6, 10, 11, 70, 71] (k := ?_)
                repeat refine gwp_seq ?_
                refine gwp_region ?_
                refine v0 (k := ?_)
                refine v0 (k := ?_)
                refine v0 (k := ?_)
                refine v1 (hc := kLo2.h {}) (k := ?_)
                refine s1 (hc := kLo2.h {}) (k := ?_)
                refine nil0 ?_
                refine cl [0, 2, 3, 4, 5, 6, 10, 11, 70, 71] (k := ?_)
                repeat refine gwp_seq ?_
                have hsh : bitop .or .i64 ((m : Nat) : Int) (IntKind.i64.wrap (1 * 2 ^ min y IntKind.i64.bits)) = ((m ||| 2 ^ y : Nat) : Int) := or_i64 (s := m) (k := y) (by omega) (by omega)
                refine rd ?_
                refine d0 0 (k := ?_)
                refine d0 1 (k := ?_)
                refine d1 2 (hc := kLo2.h {}) (k := ?_)
                refine d0 3 (k := ?_)
                refine d0 4 (k := ?_)
                refine d1 5 (hc := kLo2.h {}) (k := ?_)
                refine d0 6 (k := ?_)
                refine d1 7 (hc := kLo2.h {}) (k := ?_)
                refine ds1 8 (hc := kLo2.h {}) (k := ?_)
                refine dz 9 [0, 0, 3, 7, 0, 16, 63, 127, 255] (h := ?_)
                refine de 9 (h := ?_)
                refine cl [0, 2, 3, 4, 5, 6, 70, 71] (k := ?_)
                repeat refine gwp_seq ?_
                refine gwp_region ?_
                refine v1 (hc := kLo2.h {}) (k := ?_)
                refine v0 (k := ?_)
                refine nil0 ?_
                refine lend [0, 2, 3, 4, 5, 6, 70, 71] (h := ?_) (hV := ?_) (n' := w4 - (i + 1))
                · omega
                first
                | exact ⟨i + 1, u + 1 + 1 + 1, rs, has.set p y, hands.set p (m ||| 2 ^ y), un + 1, by omega, by omega, hM.unwr hx hm (by omega) (by omega) hknow (by omega), rfl, sgE rfl (by rw [natI_set, natI_set])⟩
                | exact ⟨i + 1, u + 1 + 1, rs ++ [⟨(p : Nat), (x : Nat), (y : Nat)⟩], has.set p y, hands.set p (m ||| 2 ^ y), un, by omega, by omega, hM.wrt hx hm (by omega) (by omega) (by omega) (by omega) (by omega), rfl, sgE rfl (by rw [natI_set, natI_set, List.map_append, List.length_append]; rfl)⟩
                | exact ⟨i + 1, u + 1 + 1 + 1, rs ++ [⟨(p : Nat), (x : Nat), (y : Nat)⟩], has.set p y, hands.set p (m ||| 2 ^ y), un, by omega, by omega, hM.wrt hx hm (by omega) (by omega) (by omega) (by omega) (by omega), rfl, sgE rfl (by rw [natI_set, natI_set, List.map_append, List.length_append]; rfl)⟩
                | exact ⟨i + 1, u + 1 + 1, rs, has, hands, un, by omega, by omega, hM, rfl, rfl⟩
                | exact ⟨i + 1, u + 1 + 1 + 1, rs, has, hands, un, by omega, by omega, hM, rfl, rfl⟩
              · replace hb7 := hB.h {} hb7
                repeat refine gwp_seq ?_
                refine gwp_region ?_
                refine v0 (k := ?_)
                refine v0 (k := ?_)
                refine v0 (k := ?_)
                refine v0 (k := ?_)
                refine nil0 ?_
                repeat refine gwp_seq ?_
                refine cB (k1 := fun hb8 => ?_) (k0 := fun hb8 => ?_)
                · replace hb8 := hB.h {} hb8
                  repeat refine gwp_seq ?_
                  refine gwp_region ?_
                  refine v0 (k := ?_)
                  refine v0 (k := ?_)
                  refine v0 (k := ?_)
                  refine v0 (k := ?_)
                  refine v0 (k := ?_)
                  refine v0 (k := ?_)
                  refine n1 1240 false (hc := kLo2.h {}) (k := ?_)
                  refine n1 1250 false (hc := kLo2.h {}) (k := ?_)
                  refine v0 (k := ?_)
                  refine s1 (hc := kLo2.h {}) (k := ?_)
                  refine nil0 ?_
                  refine cl [0, 2, 3, 4, 5, 6, 10, 11, 70, 71] (k := ?_)
                  repeat refine gwp_seq ?_
                  refine gwp_region ?_
                  refine v0 (k := ?_)
                  refine v0 (k := ?_)
                  refine v0 (k := ?_)
                  refine v1 (hc := kLo2.h {}) (k := ?_)
                  refine s1 (hc := kLo2.h {}) (k := ?_)
                  refine nil0 ?_
                  refine cl [0, 2, 3, 4, 5, 6, 10, 11, 70, 71] (k := ?_)
                  repeat refine gwp_seq ?_
                  have hsh : bitop .or .i64 ((m : Nat) : Int) (IntKind.i64.wrap (1 * 2 ^ min y IntKind.i64.bits)) = ((m ||| 2 ^ y : Nat) : Int) := or_i64 (s := m) (k := y) (by omega) (by omega)
                  refine rd ?_
                  refine d0 0 (k := ?_)
                  refine d0 1 (k := ?_)
                  refine d1 2 (hc := kLo2.h {}) (k := ?_)
                  refine d0 3 (k := ?_)
                  refine d0 4 (k := ?_)
                  refine d1 5 (hc := kLo2.h {}) (k := ?_)
                  refine d0 6 (k := ?_)
                  refine d1 7 (hc := kLo2.h {}) (k := ?_)
                  refine ds1 8 (hc := kLo2.h {}) (k := ?_)
                  refine dz 9 [0, 0, 3, 7, 0, 16, 63, 127, 255] (h := ?_)
                  refine de 9 (h := ?_)
                  refine cl [0, 2, 3, 4, 5, 6, 70, 71] (k := ?_)
                  repeat refine gwp_seq ?_
                  refine gwp_region ?_
                  refine v1 (hc := kLo2.h {}) (k := ?_)
                  refine v0 (k := ?_)
                  refine nil0 ?_
                  refine lend [0, 2, 3, 4, 5, 6, 70, 71] (h := ?_) (hV := ?_) (n' := w4 - (i + 1))
                  · omega
                  first
                  | exact ⟨i + 1, u + 1 + 1 + 1, rs, has.set p y, hands.set p (m ||| 2 ^ y), un + 1, by omega, by omega, hM.unwr hx hm (by omega) (by omega) hknow (by omega), rfl, sgE rfl (by rw [natI_set, natI_set])⟩
                  | exact ⟨i + 1, u + 1 + 1, rs ++ [⟨(p : Nat), (x : Nat), (y : Nat)⟩], has.set p y, hands.set p (m ||| 2 ^ y), un, by omega, by omega, hM.wrt hx hm (by omega) (by omega) (by omega) (by omega) (by omega), rfl, sgE rfl (by rw [natI_set, natI_set, List.map_append, List.length_append]; rfl)⟩
                  | exact ⟨i + 1, u + 1 + 1 + 1, rs ++ [⟨(p : Nat), (x : Nat), (y : Nat)⟩], has.set p y, hands.set p (m ||| 2 ^ y), un, by omega, by omega, hM.wrt hx hm (by omega) (by omega) (by omega) (by omega) (by omega), rfl, sgE rfl (by rw [natI_set, natI_set, List.map_append, List.length_append]; rfl)⟩
                  | exact ⟨i + 1, u + 1 + 1, rs, has, hands, un, by omega, by omega, hM, rfl, rfl⟩
                  | exact ⟨i + 1, u + 1 + 1 + 1, rs, has, hands, un, by omega, by omega, hM, rfl, rfl⟩
                · replace hb8 := hB.h {} hb8
                  repeat refine gwp_seq ?_
                  refine gwp_exit ?_
                  repeat (first | refine gthen_exit ?_ | refine gnoGoto_exit ?_ | refine gblock_here ?_ | refine gblock_out rfl ?_)
                  refine cl [0, 2, 3, 4, 5, 6, 70, 71] (k := ?_)
                  repeat refine gwp_seq ?_
                  refine gwp_region ?_
                  refine v1 (hc := kLo2.h {}) (k := ?_)
                  refine v0 (k := ?_)
                  refine nil0 ?_
                  refine lend [0, 2, 3, 4, 5, 6, 70, 71] (h := ?_) (hV := ?_) (n' := w4 - (i + 1))
                  · omega
                  first
                  | exact ⟨i + 1, u + 1 + 1 + 1, rs, has.set p y, hands.set p (m ||| 2 ^ y), un + 1, by omega, by omega, hM.unwr hx hm (by omega) (by omega) hknow (by omega), rfl, sgE rfl (by rw [natI_set, natI_set])⟩
                  | exact ⟨i + 1, u + 1 + 1, rs ++ [⟨(p : Nat), (x : Nat), (y : Nat)⟩], has.set p y, hands.set p (m ||| 2 ^ y), un, by omega, by omega, hM.wrt hx hm (by omega) (by omega) (by omega) (by omega) (by omega), rfl, sgE rfl (by rw [natI_set, natI_set, List.map_append, List.length_append]; rfl)⟩
                  | exact ⟨i + 1, u + 1 + 1 + 1, rs ++ [⟨(p : Nat), (x : Nat), (y : Nat)⟩], has.set p y, hands.set p (m ||| 2 ^ y), un, by omega, by omega, hM.wrt hx hm (by omega) (by omega) (by omega) (by omega) (by omega), rfl, sgE rfl (by rw [natI_set, natI_set, List.map_append, List.length_append]; rfl)⟩
                  | exact ⟨i + 1, u + 1 + 1, rs, has, hands, un, by omega, by omega, hM, rfl, rfl⟩
                  | exact ⟨i + 1, u + 1 + 1 + 1, rs, has, hands, un, by omega, by omega, hM, rfl, rfl⟩
            · replace hb6 := hB.h {} hb6
              refine x0 (k := ?_)
              refine x0 (k := ?_)
              refine x0 (k := ?_)
              refine v0 (k := ?_)
              refine nil0 ?_
              repeat refine gwp_seq ?_
              refine cF (k := ?_)
              repeat refine gwp_seq ?_
              refine gwp_region ?_
              refine v0 (k := ?_)
              refine v0 (k := ?_)
              refine v0 (k := ?_)
              refine v0 (k := ?_)
              refine nil0 ?_
              repeat refine gwp_seq ?_
              refine cB (k1 := fun hb9 => ?_) (k0 := fun hb9 => ?_)
              · replace hb9 := hB.h {} hb9
                repeat refine gwp_seq ?_
                refine gwp_region ?_
                refine v0 (k := ?_)
                refine v0 (k := ?_)
                refine v0 (k := ?_)
                refine v0 (k := ?_)
                refine v0 (k := ?_)
                refine v0 (k := ?_)
                refine n1 1240 false (hc := kLo2.h {}) (k := ?_)
                refine n1 1250 false (hc := kLo2.h {}) (k := ?_)
                refine v0 (k := ?_)
                refine s1 (hc := kLo2.h {}) (k := ?_)
                refine nil0 ?_
                refine cl [0, 2, 3, 4, 5, 6, 10, 11, 70, 71] (k := ?_)
                repeat refine gwp_seq ?_
                refine gwp_region ?_
                refine v0 (k := ?_)
                refine v0 (k := ?_)
                refine v0 (k := ?_)
                refine v1 (hc := kLo2.h {}) (k := ?_)
                refine s1 (hc := kLo2.h {}) (k := ?_)
                refine nil0 ?_
                refine cl [0, 2, 3, 4, 5, 6, 10, 11, 70, 71] (k := ?_)
                repeat refine gwp_seq ?_
                have hsh : bitop .or .i64 ((m : Nat) : Int) (IntKind.i64.wrap (1 * 2 ^ min y IntKind.i64.bits)) = ((m ||| 2 ^ y : Nat) : Int) := or_i64 (s := m) (k := y) (by omega) (by omega)
                refine rd ?_
                refine d0 0 (k := ?_)
                refine d0 1 (k := ?_)
                refine d1 2 (hc := kLo2.h {}) (k := ?_)
                refine d0 3 (k := ?_)
                refine d0 4 (k := ?_)
                refine d1 5 (hc := kLo2.h {}) (k := ?_)
                refine d0 6 (k := ?_)
                refine d1 7 (hc := kLo2.h {}) (k := ?_)
                refine ds1 8 (hc := kLo2.h {}) (k := ?_)
                refine dz 9 [0, 0, 3, 7, 0, 16, 63, 127, 255] (h := ?_)
                refine de 9 (h := ?_)
                refine cl [0, 2, 3, 4, 5, 6, 70, 71] (k := ?_)
                repeat refine gwp_seq ?_
                refine gwp_region ?_
                refine v1 (hc := kLo2.h {}) (k := ?_)
                refine v0 (k := ?_)
                refine nil0 ?_
                refine lend [0, 2, 3, 4, 5, 6, 70, 71] (h := ?_) (hV := ?_) (n' := w4 - (i + 1))
                · omega
                first
                | exact ⟨i + 1, u + 1 + 1 + 1, rs, has.set p y, hands.set p (m ||| 2 ^ y), un + 1, by omega, by omega, hM.unwr hx hm (by omega) (by omega) hknow (by omega), rfl, sgE rfl (by rw [natI_set, natI_set])⟩
                | exact ⟨i + 1, u + 1 + 1, rs ++ [⟨(p : Nat), (x : Nat), (y : Nat)⟩], has.set p y, hands.set p (m ||| 2 ^ y), un, by omega, by omega, hM.wrt hx hm (by omega) (by omega) (by omega) (by omega) (by omega), rfl, sgE rfl (by rw [natI_set, natI_set, List.map_append, List.length_append]; rfl)⟩
                | exact ⟨i + 1, u + 1 + 1 + 1, rs ++ [⟨(p : Nat), (x : Nat), (y : Nat)⟩], has.set p y, hands.set p (m ||| 2 ^ y), un, by omega, by omega, hM.wrt hx hm (by omega) (by omega) (by omega) (by omega) (by omega), rfl, sgE rfl (by rw [natI_set, natI_set, List.map_append, List.length_append]; rfl)⟩
                | exact ⟨i + 1, u + 1 + 1, rs, has, hands, un, by omega, by omega, hM, rfl, rfl⟩
                | exact ⟨i + 1, u + 1 + 1 + 1, rs, has, hands, un, by omega, by omega, hM, rfl, rfl⟩
              · replace hb9 := hB.h {} hb9
                repeat refine gwp_seq ?_
                refine gwp_exit ?_
                repeat (first | refine gthen_exit ?_ | refine gnoGoto_exit ?_ | refine gblock_here ?_ | refine gblock_out rfl ?_)
                refine cl [0, 2, 3, 4, 5, 6, 70, 71] (k := ?_)
                repeat refine gwp_seq ?_
                refine gwp_region ?_
                refine v1 (hc := kLo2.h {}) (k := ?_)
                refine v0 (k := ?_)
                refine nil0 ?_
                refine lend [0, 2, 3, 4, 5, 6, 70, 71] (h := ?_) (hV := ?_) (n' := w4 - (i + 1))
                · omega
                first
                | exact ⟨i + 1, u + 1 + 1 + 1, rs, has.set p y, hands.set p (m ||| 2 ^ y), un + 1, by omega, by omega, hM.unwr hx hm (by omega) (by omega) hknow (by omega), rfl, sgE rfl (by rw [natI_set, natI_set])⟩
                | exact ⟨i + 1, u + 1 + 1, rs ++ [⟨(p : Nat), (x : Nat), (y : Nat)⟩], has.set p y, hands.set p (m ||| 2 ^ y), un, by omega, by omega, hM.wrt hx hm (by omega) (by omega) (by omega) (by omega) (by omega), rfl, sgE rfl (by rw [natI_set, natI_set, List.map_append, List.length_append]; rfl)⟩
                | exact ⟨i + 1, u + 1 + 1 + 1, rs ++ [⟨(p : Nat), (x : Nat), (y : Nat)⟩], has.set p y, hands.set p (m ||| 2 ^ y), un, by omega, by omega, hM.wrt hx hm (by omega) (by omega) (by omega) (by omega) (by omega), rfl, sgE rfl (by rw [natI_set, natI_set, List.map_append, List.length_append]; rfl)⟩
                | exact ⟨i + 1, u + 1 + 1, rs, has, hands, un, by omega, by omega, hM, rfl, rfl⟩
                | exact ⟨i + 1, u + 1 + 1 + 1, rs, has, hands, un, by omega, by omega, hM, rfl, rfl⟩
          · repeat refine gwp_seq ?_
            refine gwp_region ?_
            refine v0 (k := ?_)
            refine v0 (k := ?_)
            refine v0 (k := ?_)
            refine v0 (k := ?_)
            refine v1 (hc := kLo2.h {}) (k := ?_)
            refine rb 92 false (h := by (rfl)) (k := ?_)
            refine v0 (k := ?_)
            refine x0 (k := ?_)
            refine x0 (k := ?_)
            refine v0 (k := ?_)
            refine v0 (k := ?_)
            refine x0 (k := ?_)
            refine x0 (k := ?_)
            refine x0 (k := ?_)
            refine v0 (k := ?_)
            refine nil0 ?_
            repeat refine gwp_seq ?_
            refine cF (k := ?_)
            repeat refine gwp_seq ?_
            refine gwp_region ?_
            refine v0 (k := ?_)
            refine v0 (k := ?_)
            refine v0 (k := ?_)
            refine v0 (k := ?_)
            refine nil0 ?_
            repeat refine gwp_seq ?_
            refine cB (k1 := fun hb10 => ?_) (k0 := fun hb10 => ?_)
            · replace hb10 := hB.h {} hb10
              repeat refine gwp_seq ?_
              refine gwp_region ?_
              refine v0 (k := ?_)
              refine v0 (k := ?_)
              refine v0 (k := ?_)
              refine v0 (k := ?_)
              refine v0 (k := ?_)
              refine v0 (k := ?_)
              refine n1 1240 false (hc := kLo2.h {}) (k := ?_)
              refine n1 1250 false (hc := kLo2.h {}) (k := ?_)
              refine v0 (k := ?_)
              refine s1 (hc := kLo2.h {}) (k := ?_)
              refine nil0 ?_
              refine cl [0, 2, 3, 4, 5, 6, 10, 11, 70, 71] (k := ?_)
              repeat refine gwp_seq ?_
              refine gwp_region ?_
              refine v0 (k := ?_)
              refine v0 (k := ?_)
              refine v0 (k := ?_)
              refine v1 (hc := kLo2.h {}) (k := ?_)
              refine s1 (hc := kLo2.h {}) (k := ?_)
              refine nil0 ?_
              refine cl [0, 2, 3, 4, 5, 6, 10, 11, 70, 71] (k := ?_)
              repeat refine gwp_seq ?_
              have hsh : bitop .or .i64 ((m : Nat) : Int) (IntKind.i64.wrap (1 * 2 ^ min y IntKind.i64.bits)) = ((m ||| 2 ^ y : Nat) : Int) := or_i64 (s := m) (k := y) (by omega) (by omega)
              refine rd ?_
              refine d0 0 (k := ?_)
              refine d0 1 (k := ?_)
              refine d1 2 (hc := kLo2.h {}) (k := ?_)
              refine d0 3 (k := ?_)
              refine d0 4 (k := ?_)
              refine d1 5 (hc := kLo2.h {}) (k := ?_)
              refine d0 6 (k := ?_)
              refine d1 7 (hc := kLo2.h {}) (k := ?_)
              refine ds1 8 (hc := kLo2.h {}) (k := ?_)
              refine dz 9 [0, 0, 3, 7, 0, 16, 63, 127, 255] (h := ?_)
              refine de 9 (h := ?_)
              refine cl [0, 2, 3, 4, 5, 6, 70, 71] (k := ?_)
              repeat refine gwp_seq ?_
              refine gwp_region ?_
              refine v1 (hc := kLo2.h {}) (k := ?_)
              refine v0 (k := ?_)
              refine nil0 ?_
              refine lend [0, 2, 3, 4, 5, 6, 70, 71] (h := ?_) (hV := ?_) (n' := w4 - (i + 1))
              · omega
              first
              | exact ⟨i + 1, u + 1 + 1 + 1, rs, has.set p y, hands.set p (m ||| 2 ^ y), un + 1, by omega, by omega, hM.unwr hx hm (by omega) (by omega) hknow (by omega), rfl, sgE rfl (by rw [natI_set, natI_set])⟩
              | exact ⟨i + 1, u + 1 + 1, rs ++ [⟨(p : Nat), (x : Nat), (y : Nat)⟩], has.set p y, hands.set p (m ||| 2 ^ y), un, by omega, by omega, hM.wrt hx hm (by omega) (by omega) (by omega) (by omega) (by omega), rfl, sgE rfl (by rw [natI_set, natI_set, List.map_append, List.length_append]; rfl)⟩
              | exact ⟨i + 1, u + 1 + 1 + 1, rs ++ [⟨(p : Nat), (x : Nat), (y : Nat)⟩], has.set p y, hands.set p (m ||| 2 ^ y), un, by omega, by omega, hM.wrt hx hm (by omega) (by omega) (by omega) (by omega) (by omega), rfl, sgE rfl (by rw [natI_set, natI_set, List.map_append, List.length_append]; rfl)⟩
              | exact ⟨i + 1, u + 1 + 1, rs, has, hands, un, by omega, by omega, hM, rfl, rfl⟩
              | exact ⟨i + 1, u + 1 + 1 + 1, rs, has, hands, un, by omega, by omega, hM, rfl, rfl⟩
            · replace hb10 := hB.h {} hb10
              repeat refine gwp_seq ?_
              refine gwp_exit ?_
              repeat (first | refine gthen_exit ?_ | refine gnoGoto_exit ?_ | refine gblock_here ?_ | refine gblock_out rfl ?_)
              refine cl [0, 2, 3, 4, 5, 6, 70, 71] (k := ?_)
              repeat refine gwp_seq ?_
              refine gwp_region ?_
              refine v1 (hc := kLo2.h {}) (k := ?_)
              refine v0 (k := ?_)
              refine nil0 ?_
              refine lend [0, 2, 3, 4, 5, 6, 70, 71] (h := ?_) (hV := ?_) (n' := w4 - (i + 1))
              · omega
              first
              | exact ⟨i + 1, u + 1 + 1 + 1, rs, has.set p y, hands.set p (m ||| 2 ^ y), un + 1, by omega, by omega, hM.unwr hx hm (by omega) (by omega) hknow (by omega), rfl, sgE rfl (by rw [natI_set, natI_set])⟩
              | exact ⟨i + 1, u + 1 + 1, rs ++ [⟨(p : Nat), (x : Nat), (y : Nat)⟩], has.set p y, hands.set p (m ||| 2 ^ y), un, by omega, by omega, hM.wrt hx hm (by omega) (by omega) (by omega) (by omega) (by omega), rfl, sgE rfl (by rw [natI_set, natI_set, List.map_append, List.length_append]; rfl)⟩
              | exact ⟨i + 1, u + 1 + 1 + 1, rs ++ [⟨(p : Nat), (x : Nat), (y : Nat)⟩], has.set p y, hands.set p (m ||| 2 ^ y), un, by omega, by omega, hM.wrt hx hm (by omega) (by omega) (by omega) (by omega) (by omega), rfl, sgE rfl (by rw [natI_set, natI_set, List.map_append, List.length_append]; rfl)⟩
              | exact ⟨i + 1, u + 1 + 1, rs, has, hands, un, by omega, by omega, hM, rfl, rfl⟩
              | exact ⟨i + 1, u + 1 + 1 + 1, rs, has, hands, un, by omega, by omega, hM, rfl, rfl⟩
      · replace hb4 := hB.h {} hb4
        repeat refine gwp_seq ?_
        refine gwp_exit ?_
        repeat (first | refine gthen_exit ?_ | refine gnoGoto_exit ?_ | refine gblock_here ?_ | refine gblock_out rfl ?_)
        refine cl [0, 2, 3, 4, 5] (k := ?_)
        repeat refine gwp_seq ?_
        have hd3 := drawN_lt bs (u + 1) (n := 3) (by omega)
        refine gwp_region ?_
        refine go_freezeK 660 pl (cs := ((natI has).map (P.int .i64)).map G.p) (fz := 0) (by simp only [mkHp_cons, mkHp_nil, Nat.reduceEqDiff, reduceIte]) (Nat.zero_le _) (by rw [List.length_map, List.length_map]; omega) (one_map (ints_one _) _) ?_
        refine go_freezeK 690 pl (cs := ((natI hands).map (P.int .i64)).map G.p) (fz := 0) (by simp only [mkHp_cons, mkHp_nil, Nat.reduceEqDiff, reduceIte]) (Nat.zero_le _) (by rw [List.length_map, List.length_map]; omega) (one_map (ints_one _) _) ?_
        refine go_fsl 3 (off := 0) (len := pl) (fz := pl) (id := 660) (cs := ((natI has).map (P.int .i64)).map G.p) (ps := (natI has).map (P.int .i64)) (by simp only [mkFr_cons, Nat.reduceEqDiff, reduceIte]) (by simp only [mkHp_cons, mkHp_nil, Nat.reduceEqDiff, reduceIte]) (by omega) (by rw [List.drop_zero, List.take_of_length_le (by rw [List.length_map, List.length_map]; omega)]) (by rw [List.length_map]; omega) (ints_one _) ?_
        refine go_fsl 4 (off := 0) (len := pl) (fz := pl) (id := 690) (cs := ((natI hands).map (P.int .i64)).map G.p) (ps := (natI hands).map (P.int .i64)) (by simp only [mkFr_cons, Nat.reduceEqDiff, reduceIte]) (by simp only [mkHp_cons, mkHp_nil, Nat.reduceEqDiff, reduceIte]) (by omega) (by rw [List.drop_zero, List.take_of_length_le (by rw [List.length_map, List.length_map]; omega)]) (by rw [List.length_map]; omega) (ints_one _) ?_
        refine v0 (k := ?_)
        refine v0 (k := ?_)
        refine oc0 [(0, 0), (1, 1)] [] [0, 0, 0] none (spec := c_draw bs hbl hbm hq1 hq2 (u) (3) (by omega) (by omega) (by omega)) (hent := ent94) (k := ?_)
        refine v1 (hc := kLo2.h {}) (k := ?_)
        refine v0 (k := ?_)
        refine v0 (k := ?_)
        refine s1 (hc := kLo2.h {}) (k := ?_)
        refine nil0 ?_
        refine cl [0, 2, 3, 4, 5] (k := ?_)
        repeat refine gwp_seq ?_
        refine gwp_region ?_
        refine v0 (k := ?_)
        refine v0 (k := ?_)
        refine v0 (k := ?_)
        refine v0 (k := ?_)
        refine s1 (hc := kLo2.h {}) (k := ?_)
        refine v0 (k := ?_)
        refine v0 (k := ?_)
        refine v0 (k := ?_)
        refine nil0 ?_
        repeat refine gwp_seq ?_
        refine gwp_ret ?_
        repeat (first | refine gthen_ret ?_ | refine gblock_ret ?_ | refine gnoGoto_ret ?_)
        refine fin_ret ?_
        refine fk4 [0, 1] (hR := ?_)
        have hMd := made_ok (t := u + 1) (ms := (min 20 ((un : Int) + ((drawN bs (u + 1) 3 : Nat) : Int)))) hM (by omega) (by omega) (by omega) hkv (by omega)
        exact ⟨⟨⟨(pl : Nat), (ps : Nat), kn, rs, (min 20 ((un : Int) + ((drawN bs (u + 1) 3 : Nat) : Int)))⟩, has, hands, un, u + 1⟩, hMd, rfl⟩
end Go.Proofs.Ytagdholenfkeaaa

/- The statement ChainTrue. -/
namespace Go.Proofs.Ytagdholenfkeaaa
open Go.Gh
set_option maxRecDepth 100000
set_option maxHeartbeats 4000000
structure kLp1 (c : Prop) : Prop where
  h : c := by (first | exact True.intro | omega | (simp only [inI]; omega) | (simp [P.size, pr, pk, all_int, allOne_p, goods_p, allOne, goods, good, G.one, P.one, P.cells] <;> first | omega | assumption | simp_all))
theorem ent6 : Enters Try.prog 6 := Enters.mk Try.func6 (by kernel_rfl) rfl
theorem l_true (bs : List Int) (hbm : bs.length ≤ maxLen) (hq1 : ∀ b ∈ bs, 0 ≤ b) (hq2 : ∀ b ∈ bs, b ≤ 65535) : PSpec Try.prog 6 [.list (bs.map (.int .u16))] (.ok (.bool true)) := by
  refine pspec_of Try.func6 (rfl : Try.f6.body = some _) rfl ?_
  intro E A C hN hL
  replace hN : C.N = 155 := hN
  simp only [Gh.num, List.map_cons, List.map_nil, Nat.reduceAdd]
  have hdt : ∀ (i : Decidable True), @decide True i = true := fun i => decide_eq_true trivial
  have hdf : ∀ (i : Decidable False), @decide False i = false := fun i => decide_eq_false id
  have hbt : (true == true) = true := rfl
  have hbf : (false == false) = true := rfl
  have htf : (true == false) = false := rfl
  have hft : (false == true) = false := rfl
  have hpk : ∀ k : Kw, pk k = P.agg [.int .i64 k.a, .int .i64 k.b] := fun _ => rfl
  have hpr : ∀ r : Rc, pr r = P.agg [.int .i64 r.p, .int .i64 r.f, .int .i64 r.t] := fun _ => rfl
  repeat refine gwp_seq ?_
  refine gwp_region ?_
  refine v0 (k := ?_)
  refine nil0 ?_
  refine cl [0] (k := ?_)
  repeat refine gwp_seq ?_
  refine gwp_region ?_
  refine v0 (k := ?_)
  refine v0 (k := ?_)
  refine v0 (k := ?_)
  refine nil0 ?_
  repeat refine gwp_seq ?_
  refine cB (k1 := fun hb1 => ?_) (k0 := fun hb1 => ?_)
  · replace hb1 := hB.h {} hb1
    try rw [eqI] at hb1
    repeat refine gwp_seq ?_
    refine gwp_region ?_
    refine pc0 (spec := l_alive) (hent := ent14) (k := ?_)
    refine v0 (k := ?_)
    refine nil0 ?_
    repeat refine gwp_seq ?_
    refine gwp_ret ?_
    repeat (first | refine gthen_ret ?_ | refine gblock_ret ?_ | refine gnoGoto_ret ?_)
    refine fin_ret ?_
    refine fp (hR := ?_)
    rfl
  · replace hb1 := hB.h {} hb1
    try rw [eqI] at hb1
    have hbl : 0 < bs.length := by omega
    repeat refine gwp_seq ?_
    refine gwp_skip ?_
    refine cl [0] (k := ?_)
    repeat refine gwp_seq ?_
    refine gwp_region ?_
    refine v0 (k := ?_)
    refine oc0 [(130, 2000), (110, 2010)] [] [1] none (spec := c_draws bs) (hent := ent34) (k := ?_)
    refine on0 [(0, 2000), (1, 2010)] [] [0] none (X := Md) (spec := c_made bs hbl hbm hq1 hq2 0 (by omega)) (hent := ent33) (k := fun x hX => ?_)
    have hv := hX.valid
    have hn := valid_num hv
    have hl := hX.least
    have hms := hX.ms
    have hle : leastC x.c ≤ x.c.ms := by omega
    have hlt : leastC x.c < 1048576 := by omega
    have hdz : dropV x.c ≤ 0 := Nat.le_of_eq hX.drop
    have hhl := hX.hlen
    have hdl := hX.dlen
    have hnh := natI_len x.has
    have hnd := natI_len x.hands
    refine v0 (k := ?_)
    refine v0 (k := ?_)
    refine v0 (k := ?_)
    refine v0 (k := ?_)
    refine v0 (k := ?_)
    refine n1 130 false (hc := kLp1.h {}) (k := ?_)
    refine s1 (hc := kLp1.h {}) (k := ?_)
    refine v0 (k := ?_)
    refine v0 (k := ?_)
    refine v0 (k := ?_)
    refine nil0 ?_
    refine cl [3, 4, 5, 6] (k := ?_)
    repeat refine gwp_seq ?_
    refine gwp_region ?_
    refine v0 (k := ?_)
    refine pc0 (spec := w_least_t x.c hv hlt) (hent := ent21) (k := ?_)
    refine v0 (k := ?_)
    refine v0 (k := ?_)
    refine v0 (k := ?_)
    refine v0 (k := ?_)
    refine v0 (k := ?_)
    refine nil0 ?_
    refine cl [3, 4, 5, 6, 7, 8] (k := ?_)
    repeat refine gwp_seq ?_
    refine gwp_region ?_
    refine v0 (k := ?_)
    refine pc0 (spec := w_drop x.c hv) (hent := ent30) (k := ?_)
    refine v0 (k := ?_)
    refine v0 (k := ?_)
    refine v0 (k := ?_)
    refine v0 (k := ?_)
    refine v0 (k := ?_)
    refine nil0 ?_
    refine cl [3, 4, 5, 6, 7, 8, 9, 10] (k := ?_)
    repeat refine gwp_seq ?_
    refine gwp_region ?_
    refine v0 (k := ?_)
    refine v0 (k := ?_)
    refine rb 45 false (h := by (first | with_reducible rfl | exact decide_eq_false (by omega) | exact nd_f (by omega) | rfl | decide)) (k := ?_)
    refine v0 (k := ?_)
    refine w0 (k := ?_)
    refine w0 (k := ?_)
    refine w0 (k := ?_)
    refine rb 49 false (h := by (first | with_reducible rfl | exact decide_eq_false (by omega) | exact nd_f (by omega) | rfl | decide)) (k := ?_)
    refine v0 (k := ?_)
    refine v0 (k := ?_)
    refine w0 (k := ?_)
    refine w0 (k := ?_)
    refine rb 53 false (h := by (first | with_reducible rfl | exact decide_eq_false (by omega) | exact nd_f (by omega) | rfl | decide)) (k := ?_)
    refine v0 (k := ?_)
    refine v0 (k := ?_)
    refine w0 (k := ?_)
    refine w0 (k := ?_)
    refine rb 57 false (h := by (first | with_reducible rfl | exact decide_eq_false (by omega) | exact nd_f (by omega) | rfl | decide)) (k := ?_)
    refine v0 (k := ?_)
    refine v0 (k := ?_)
    refine w0 (k := ?_)
    refine w0 (k := ?_)
    refine rb 61 false (h := by (first | with_reducible rfl | exact decide_eq_false (by omega) | exact nd_f (by omega) | rfl | decide)) (k := ?_)
    refine v0 (k := ?_)
    refine nil0 ?_
    repeat refine gwp_seq ?_
    refine cF (k := ?_)
    repeat refine gwp_seq ?_
    refine gwp_skip ?_
    refine cl [3, 4, 5] (k := ?_)
    repeat refine gwp_seq ?_
    refine gwp_region ?_
    refine v0 (k := ?_)
    refine v0 (k := ?_)
    refine v0 (k := ?_)
    refine nil0 ?_
    refine cl [3, 5, 63, 64, 65] (k := ?_)
    repeat refine gwp_seq ?_
    refine gwp_block ?_
    repeat refine gwp_seq ?_
    refine gc_loop (fun mz σ => ∃ k : Nat, (k ≤ x.has.length) ∧ mz = x.has.length - k ∧ σ = (sg [(3, .ref 130 0), (5, .p (.list ((natI x.hands).map (.int .i64)))), (63, .p (.list ((natI x.has).map (.int .i64)))), (64, .p (.int .i64 (x.has.length : Nat))), (65, .p (.int .i64 (k : Nat)))] [(130, .cells [.p (.int .i64 x.c.pl), .p (.int .i64 x.c.ps), .p (.list (x.c.kn.map pk)), .p (.list (x.c.rs.map pr)), .p (.int .i64 x.c.ms)] 0)] A [] : Sg E)) ?_ (fun mz σ hI => ?_)
    · refine lbeg [3, 5, 63, 64, 65] (hV := ?_)
      exact ⟨_, 0, by omega, rfl, rfl⟩
    obtain ⟨k, hk, hnn, rfl⟩ := hI
    repeat refine gwp_seq ?_
    refine gwp_region ?_
    refine v0 (k := ?_)
    refine nil0 ?_
    repeat refine gwp_seq ?_
    refine cB (k1 := fun hb2 => ?_) (k0 := fun hb2 => ?_)
    · replace hb2 := hB.h {} hb2
      try rw [eqI] at hb2
      repeat refine gwp_seq ?_
      refine gwp_skip ?_
      refine cl [3, 5, 63, 64, 65] (k := ?_)
      repeat refine gwp_seq ?_
      refine gwp_block ?_
      repeat refine gwp_seq ?_
      obtain ⟨w, hw⟩ := getE (l := x.has) (k := k) (by omega)
      obtain ⟨m, hm⟩ := getE (l := x.hands) (k := k) (by omega)
      have hw2 := natI_get hw
      have hm2 := natI_get hm
      have hwp := hX.x_lt hw
      have hm8 := hX.m_lt hm
      have hW8 := whereC_lt hv (k : Nat)
      refine gwp_region ?_
      refine v0 (k := ?_)
      refine v1 (hc := kLp1.h {}) (k := ?_)
      refine v0 (k := ?_)
      refine v0 (k := ?_)
      refine v0 (k := ?_)
      refine nil0 ?_
      refine cl [3, 5, 11, 12, 63, 64, 65] (k := ?_)
      repeat refine gwp_seq ?_
      refine gwp_region ?_
      refine v0 (k := ?_)
      refine v0 (k := ?_)
      refine pc0 (spec := w_where_t x.c hv k (by omega) hle) (hent := ent24) (k := ?_)
      refine v0 (k := ?_)
      refine v0 (k := ?_)
      refine v0 (k := ?_)
      refine v0 (k := ?_)
      refine v0 (k := ?_)
      refine nil0 ?_
      refine cl [3, 5, 11, 12, 13, 14, 63, 64, 65] (k := ?_)
      repeat refine gwp_seq ?_
      refine gwp_region ?_
      refine v0 (k := ?_)
      refine v0 (k := ?_)
      refine pc0 (spec := w_hands_t x.c hv k (by omega) hle) (hent := ent26) (k := ?_)
      refine v0 (k := ?_)
      refine v0 (k := ?_)
      refine v0 (k := ?_)
      refine v0 (k := ?_)
      refine v0 (k := ?_)
      refine v0 (k := ?_)
      refine v0 (k := ?_)
      refine nil0 ?_
      refine cl [3, 5, 11, 12, 13, 14, 15, 16, 17, 63, 64, 65] (k := ?_)
      repeat refine gwp_seq ?_
      have f88 := shr_b (whereC x.c (k : Nat)) w (by omega)
      have f89 := and_b (whereC x.c (k : Nat)) w (by omega)
      have f90 := hX.whr hw hm
      have f102 := hX.sure hw hm
      have f111 := hX.can hw hm
      refine gwp_region ?_
      refine v0 (k := ?_)
      refine v0 (k := ?_)
      refine rb 84 false (h := by (first | with_reducible rfl | exact decide_eq_false (by omega) | exact nd_f (by omega) | rfl | decide)) (k := ?_)
      refine v0 (k := ?_)
      refine w0 (k := ?_)
      refine w0 (k := ?_)
      refine w1 (hc := kLp1.h {}) (k := ?_)
      refine w0 (k := ?_)
      refine w0 (k := ?_)
      refine rb 90 false (h := by (first | with_reducible rfl | exact decide_eq_false (by omega) | exact nd_f (by omega) | rfl | decide)) (k := ?_)
      refine v0 (k := ?_)
      refine v0 (k := ?_)
      refine w0 (k := ?_)
      refine w0 (k := ?_)
      refine rb 94 false (h := by (first | with_reducible rfl | exact decide_eq_false (by omega) | exact nd_f (by omega) | rfl | decide)) (k := ?_)
      refine v0 (k := ?_)
      refine v0 (k := ?_)
      refine w0 (k := ?_)
      refine w0 (k := ?_)
      refine w0 (k := ?_)
      refine w1 (hc := kLp1.h {}) (k := ?_)
      refine w0 (k := ?_)
      refine w0 (k := ?_)
      refine w0 (k := ?_)
      refine rb 103 false (h := by (first | with_reducible rfl | exact decide_eq_false (by omega) | exact nd_f (by omega) | rfl | decide)) (k := ?_)
      refine v0 (k := ?_)
      refine v0 (k := ?_)
      refine w0 (k := ?_)
      refine w0 (k := ?_)
      refine w1 (hc := kLp1.h {}) (k := ?_)
      refine w0 (k := ?_)
      refine w0 (k := ?_)
      refine w0 (k := ?_)
      refine w0 (k := ?_)
      refine rb 112 false (h := by (first | with_reducible rfl | exact decide_eq_false (by omega) | exact nd_f (by omega) | rfl | decide)) (k := ?_)
      refine v0 (k := ?_)
      refine nil0 ?_
      repeat refine gwp_seq ?_
      refine cF (k := ?_)
      repeat refine gwp_seq ?_
      refine gwp_skip ?_
      refine cl [3, 5, 11, 12, 63, 64, 65] (k := ?_)
      repeat refine gwp_seq ?_
      refine gwp_region ?_
      refine v0 (k := ?_)
      refine v0 (k := ?_)
      refine v0 (k := ?_)
      refine nil0 ?_
      refine cl [3, 5, 11, 12, 63, 64, 65, 115, 116] (k := ?_)
      repeat refine gwp_seq ?_
      refine gwp_block ?_
      repeat refine gwp_seq ?_
      refine gc_loop (fun mz σ => ∃ q : Nat, ((q : Int) ≤ x.c.ps) ∧ mz = x.c.ps.toNat - q ∧ σ = (sg [(3, .ref 130 0), (5, .p (.list ((natI x.hands).map (.int .i64)))), (11, .p (.int .i64 (k : Nat))), (12, .p (.int .i64 (w : Nat))), (63, .p (.list ((natI x.has).map (.int .i64)))), (64, .p (.int .i64 (x.has.length : Nat))), (65, .p (.int .i64 (k : Nat))), (115, .p (.int .i64 x.c.ps)), (116, .p (.int .i64 (q : Nat)))] [(130, .cells [.p (.int .i64 x.c.pl), .p (.int .i64 x.c.ps), .p (.list (x.c.kn.map pk)), .p (.list (x.c.rs.map pr)), .p (.int .i64 x.c.ms)] 0)] A [] : Sg E)) ?_ (fun mz σ hI => ?_)
      · refine lbeg [3, 5, 11, 12, 63, 64, 65, 115, 116] (hV := ?_)
        exact ⟨_, 0, by omega, rfl, rfl⟩
      obtain ⟨q, hq, hnq, rfl⟩ := hI
      repeat refine gwp_seq ?_
      refine gwp_region ?_
      refine v0 (k := ?_)
      refine nil0 ?_
      repeat refine gwp_seq ?_
      refine cB (k1 := fun hb3 => ?_) (k0 := fun hb3 => ?_)
      · replace hb3 := hB.h {} hb3
        try rw [eqI] at hb3
        repeat refine gwp_seq ?_
        refine gwp_skip ?_
        refine cl [3, 5, 11, 12, 63, 64, 65, 115, 116] (k := ?_)
        repeat refine gwp_seq ?_
        refine gwp_block ?_
        repeat refine gwp_seq ?_
        obtain ⟨hs, hc⟩ := hX.hold hw hm (q := q) (by omega)
        have hS8 := sureH_lt x.c q x.c.pl.toNat (by omega)
        have hC8 := canH_lt x.c q x.c.pl.toNat (by omega)
        have f131 := shr_b (sureH x.c q x.c.pl.toNat) k (by omega)
        have f132 := and_b (sureH x.c q x.c.pl.toNat) k (by omega)
        have f143 := shr_b (canH x.c q x.c.pl.toNat) k (by omega)
        have f144 := and_b (canH x.c q x.c.pl.toNat) k (by omega)
        refine gwp_region ?_
        refine v0 (k := ?_)
        refine v0 (k := ?_)
        refine nil0 ?_
        refine cl [3, 5, 11, 12, 18, 63, 64, 65, 115, 116] (k := ?_)
        repeat refine gwp_seq ?_
        refine gwp_region ?_
        refine v0 (k := ?_)
        refine v0 (k := ?_)
        refine pc0 (spec := w_holds_t x.c hv q (by omega) hle) (hent := ent28) (k := ?_)
        refine v0 (k := ?_)
        refine v0 (k := ?_)
        refine v0 (k := ?_)
        refine v0 (k := ?_)
        refine v0 (k := ?_)
        refine v0 (k := ?_)
        refine v0 (k := ?_)
        refine nil0 ?_
        refine cl [3, 5, 11, 12, 18, 19, 20, 21, 63, 64, 65, 115, 116] (k := ?_)
        repeat refine gwp_seq ?_
        rcases hs with hs | ⟨hs, hqx⟩ <;> rcases hc with hc | ⟨hc, hqy⟩
        · repeat refine gwp_seq ?_
          refine gwp_region ?_
          refine v0 (k := ?_)
          refine v0 (k := ?_)
          refine rb 127 false (h := by (first | with_reducible rfl | exact decide_eq_false (by omega) | exact nd_f (by omega) | rfl | decide)) (k := ?_)
          refine v0 (k := ?_)
          refine w0 (k := ?_)
          refine w0 (k := ?_)
          refine w1 (hc := kLp1.h {}) (k := ?_)
          refine w0 (k := ?_)
          refine w0 (k := ?_)
          refine rb 133 false (h := by (first | with_reducible rfl | exact decide_eq_false (by omega) | exact nd_f (by omega) | rfl | decide)) (k := ?_)
          refine w0 (k := ?_)
          refine x0 (k := ?_)
          refine x0 (k := ?_)
          refine x0 (k := ?_)
          refine w0 (k := ?_)
          refine v0 (k := ?_)
          refine v0 (k := ?_)
          refine w0 (k := ?_)
          refine w0 (k := ?_)
          refine w1 (hc := kLp1.h {}) (k := ?_)
          refine w0 (k := ?_)
          refine w0 (k := ?_)
          refine rb 145 false (h := by (first | with_reducible rfl | exact decide_eq_false (by omega) | exact nd_f (by omega) | rfl | decide)) (k := ?_)
          refine w0 (k := ?_)
          refine x0 (k := ?_)
          refine x0 (k := ?_)
          refine x0 (k := ?_)
          refine w0 (k := ?_)
          refine v0 (k := ?_)
          refine nil0 ?_
          repeat refine gwp_seq ?_
          refine cF (k := ?_)
          repeat refine gwp_seq ?_
          refine gwp_skip ?_
          refine cl [3, 5, 11, 12, 63, 64, 65, 115, 116] (k := ?_)
          repeat refine gwp_seq ?_
          refine gwp_region ?_
          refine v1 (hc := kLp1.h {}) (k := ?_)
          refine v0 (k := ?_)
          refine nil0 ?_
          refine lend [3, 5, 11, 12, 63, 64, 65, 115, 116] (h := ?_) (hV := ?_) (n' := x.c.ps.toNat - (q + 1))
          · omega
          exact ⟨q + 1, by omega, rfl, rfl⟩
        · repeat refine gwp_seq ?_
          refine gwp_region ?_
          refine v0 (k := ?_)
          refine v0 (k := ?_)
          refine rb 127 false (h := by (first | with_reducible rfl | exact decide_eq_false (by omega) | exact nd_f (by omega) | rfl | decide)) (k := ?_)
          refine v0 (k := ?_)
          refine w0 (k := ?_)
          refine w0 (k := ?_)
          refine w1 (hc := kLp1.h {}) (k := ?_)
          refine w0 (k := ?_)
          refine w0 (k := ?_)
          refine rb 133 false (h := by (first | with_reducible rfl | exact decide_eq_false (by omega) | exact nd_f (by omega) | rfl | decide)) (k := ?_)
          refine w0 (k := ?_)
          refine x0 (k := ?_)
          refine x0 (k := ?_)
          refine x0 (k := ?_)
          refine w0 (k := ?_)
          refine v0 (k := ?_)
          refine v0 (k := ?_)
          refine w0 (k := ?_)
          refine w0 (k := ?_)
          refine w1 (hc := kLp1.h {}) (k := ?_)
          refine w0 (k := ?_)
          refine w0 (k := ?_)
          refine rb 145 true (h := by (first | with_reducible rfl | exact decide_eq_true (by omega) | exact nd_t (by omega) | rfl | decide)) (k := ?_)
          refine w0 (k := ?_)
          refine w0 (k := ?_)
          refine w0 (k := ?_)
          refine w0 (k := ?_)
          refine rb 149 false (h := by (first | with_reducible rfl | exact decide_eq_false (by omega) | exact nd_f (by omega) | rfl | decide)) (k := ?_)
          refine w0 (k := ?_)
          refine v0 (k := ?_)
          refine nil0 ?_
          repeat refine gwp_seq ?_
          refine cF (k := ?_)
          repeat refine gwp_seq ?_
          refine gwp_skip ?_
          refine cl [3, 5, 11, 12, 63, 64, 65, 115, 116] (k := ?_)
          repeat refine gwp_seq ?_
          refine gwp_region ?_
          refine v1 (hc := kLp1.h {}) (k := ?_)
          refine v0 (k := ?_)
          refine nil0 ?_
          refine lend [3, 5, 11, 12, 63, 64, 65, 115, 116] (h := ?_) (hV := ?_) (n' := x.c.ps.toNat - (q + 1))
          · omega
          exact ⟨q + 1, by omega, rfl, rfl⟩
        · have hqz : q ≤ w ∧ w ≤ q := by omega
          clear hqx
          repeat refine gwp_seq ?_
          refine gwp_region ?_
          refine v0 (k := ?_)
          refine v0 (k := ?_)
          refine rb 127 false (h := by (first | with_reducible rfl | exact decide_eq_false (by omega) | exact nd_f (by omega) | rfl | decide)) (k := ?_)
          refine v0 (k := ?_)
          refine w0 (k := ?_)
          refine w0 (k := ?_)
          refine w1 (hc := kLp1.h {}) (k := ?_)
          refine w0 (k := ?_)
          refine w0 (k := ?_)
          refine rb 133 true (h := by (first | with_reducible rfl | exact decide_eq_true (by omega) | exact nd_t (by omega) | rfl | decide)) (k := ?_)
          refine w0 (k := ?_)
          refine w0 (k := ?_)
          refine w0 (k := ?_)
          refine w0 (k := ?_)
          refine rb 137 false (h := by (first | with_reducible rfl | exact decide_eq_false (by omega) | exact nd_f (by omega) | rfl | decide)) (k := ?_)
          refine w0 (k := ?_)
          refine v0 (k := ?_)
          refine v0 (k := ?_)
          refine w0 (k := ?_)
          refine w0 (k := ?_)
          refine w1 (hc := kLp1.h {}) (k := ?_)
          refine w0 (k := ?_)
          refine w0 (k := ?_)
          refine rb 145 false (h := by (first | with_reducible rfl | exact decide_eq_false (by omega) | exact nd_f (by omega) | rfl | decide)) (k := ?_)
          refine w0 (k := ?_)
          refine x0 (k := ?_)
          refine x0 (k := ?_)
          refine x0 (k := ?_)
          refine w0 (k := ?_)
          refine v0 (k := ?_)
          refine nil0 ?_
          repeat refine gwp_seq ?_
          refine cF (k := ?_)
          repeat refine gwp_seq ?_
          refine gwp_skip ?_
          refine cl [3, 5, 11, 12, 63, 64, 65, 115, 116] (k := ?_)
          repeat refine gwp_seq ?_
          refine gwp_region ?_
          refine v1 (hc := kLp1.h {}) (k := ?_)
          refine v0 (k := ?_)
          refine nil0 ?_
          refine lend [3, 5, 11, 12, 63, 64, 65, 115, 116] (h := ?_) (hV := ?_) (n' := x.c.ps.toNat - (q + 1))
          · omega
          exact ⟨q + 1, by omega, rfl, rfl⟩
        · exact absurd hqx hqy
      · replace hb3 := hB.h {} hb3
        try rw [eqI] at hb3
        repeat refine gwp_seq ?_
        refine gwp_exit ?_
        repeat (first | refine gthen_exit ?_ | refine gnoGoto_exit ?_ | refine gblock_here ?_ | refine gblock_out rfl ?_)
        refine cl [3, 5, 63, 64, 65] (k := ?_)
        repeat refine gwp_seq ?_
        refine gwp_region ?_
        refine v1 (hc := kLp1.h {}) (k := ?_)
        refine v0 (k := ?_)
        refine nil0 ?_
        refine lend [3, 5, 63, 64, 65] (h := ?_) (hV := ?_) (n' := x.has.length - (k + 1))
        · omega
        exact ⟨k + 1, by omega, rfl, rfl⟩
    · replace hb2 := hB.h {} hb2
      try rw [eqI] at hb2
      repeat refine gwp_seq ?_
      refine gwp_exit ?_
      repeat (first | refine gthen_exit ?_ | refine gnoGoto_exit ?_ | refine gblock_here ?_ | refine gblock_out rfl ?_)
      refine cl [] (k := ?_)
      repeat refine gwp_seq ?_
      refine gwp_region ?_
      refine pc0 (spec := l_alive) (hent := ent14) (k := ?_)
      refine v0 (k := ?_)
      refine nil0 ?_
      repeat refine gwp_seq ?_
      refine gwp_ret ?_
      repeat (first | refine gthen_ret ?_ | refine gblock_ret ?_ | refine gnoGoto_ret ?_)
      refine fin_ret ?_
      refine fp (hR := ?_)
      rfl
end Go.Proofs.Ytagdholenfkeaaa

/- The statement ChainTrue, for every input: the law returns true, and its arguments read as they did.  -/
namespace Go.Proofs.Ytagdholenfkeaaa
open Go.Gh Go.ChangeShapes Go.WideShapes Go.ChangeAt Go.RowKit
set_option maxRecDepth 100000
theorem aj_true : ∀ ps, FitAs [(false, [.list [.int .u16] false])] ps → PSpec Try.prog 6 ps (.ok (.bool true)) := fun ps h => by
  simp only [FitAs] at h
  obtain ⟨_, _, rfl, q0, rfl⟩ := h
  obtain ⟨bs, rfl, hlbs, hbs⟩ := u16s_of q0
  exact l_true bs hlbs (fun b hb => (hbs b hb).1) (fun b hb => (hbs b hb).2)
theorem true_lifted (os : Os) (started : os.Started) (H : Type) (enc : TypeId × Value → H) :
    ReturnsInHanded {} Try.checked os 6 .any (Rows.chainTrueSpec.pre6 enc Try.prog Try.f6 Rows.chainTrueRow.domain false) (Rows.chainTrueSpec.post enc Try.prog Try.f6 false true false false) := by
  refine returnsInHanded_of_change (C := Try.checked) own started (by kernel_rfl) Try.func6
    (ChangeSpec.witness6 (enc := enc) (C := Try.checked) false ⟨#[], #[.slice none 0 0], []⟩ 8 (by kernel_rfl) (by kernel_rfl) (by kernel_rfl) (by kernel_rfl)) ?_
  intro W base args ds gs before hval hW _ _
  exact law_post (n := 9) (ss := [(false, [.list [.int .u16] false])]) (b := 4) laidOut (by kernel_rfl) (by kernel_rfl) (by kernel_rfl) (by kernel_rfl) rfl
    (fun ds hd => by
      have hd' : ds.length = 1 := hd
      match ds, hd' with
      | [a], _ => rfl) aj_true hval hW
theorem true_holds : Rows.ChainTrueSaid :=
  OpenClaim.holds_of_wide 6 Try.f6 rfl rfl rfl rfl rfl rfl rfl ⟨rfl, rfl, rfl, rfl, rfl⟩ rfl rfl rfl rfl rfl (by kernel_rfl) Try.func6 (by kernel_rfl)
    (of_decide_eq_true (by kernel_rfl)) (by unfold Func.isWrapper; first | (rw [if_pos (by decide +kernel)]; kernel_rfl) | (rw [if_neg (by decide +kernel)]; exact ⟨rfl, rfl⟩))
    (fun os started H enc _ => true_lifted os started H enc)
end Go.Proofs.Ytagdholenfkeaaa
