/- The statement ChainTurned: the call returns true for every input, and its arguments read as before; no condition. -/
import Derived.Test.YtagdholenfkeaaaC1
set_option linter.unusedVariables false
set_option linter.unusedSimpArgs false
/- Persons numbered otherwise, pairs in another order, the records of one plate alone. -/
namespace Go.Proofs.Ytagdholenfkeaaa
open Go.Gh
set_option maxRecDepth 100000
/-- The other numbers. -/
def rn (P b x : Nat) : Nat := if x = 0 then 0 else 1 + (x - 1 + b) % (P - 1)
structure Ren (P : Nat) (s : Nat → Nat) : Prop where
  z : s 0 = 0
  lt : ∀ x, x < P → s x < P
  inj : ∀ x y, x < P → y < P → s x = s y → x = y
  onto : ∀ y, y < P → ∃ x, x < P ∧ s x = y
theorem rn_ren {P b : Nat} (hP : 1 ≤ P ∧ P ≤ 8) : Ren P (rn P b) where
  z := rfl
  lt := fun x hx => by
    unfold rn; split
    · omega
    · have := Nat.mod_lt (x - 1 + b) (show 0 < P - 1 by omega); omega
  inj := fun x y hx hy h => by
    unfold rn at h
    have hp : P = 1 ∨ P = 2 ∨ P = 3 ∨ P = 4 ∨ P = 5 ∨ P = 6 ∨ P = 7 ∨ P = 8 := by omega
    by_cases hx0 : x = 0
    · by_cases hy0 : y = 0
      · omega
      · rw [if_pos hx0, if_neg hy0] at h; omega
    · by_cases hy0 : y = 0
      · rw [if_neg hx0, if_pos hy0] at h; omega
      · rw [if_neg hx0, if_neg hy0] at h
        rcases hp with rfl | rfl | rfl | rfl | rfl | rfl | rfl | rfl <;> omega
  onto := fun y hy => by
    have hp : P = 1 ∨ P = 2 ∨ P = 3 ∨ P = 4 ∨ P = 5 ∨ P = 6 ∨ P = 7 ∨ P = 8 := by omega
    by_cases hy0 : y = 0
    · exact ⟨0, by omega, by subst hy0; rfl⟩
    · refine ⟨1 + (y - 1 + ((P - 1) - b % (P - 1))) % (P - 1), ?_, ?_⟩
      · rcases hp with rfl | rfl | rfl | rfl | rfl | rfl | rfl | rfl <;> omega
      · unfold rn
        rw [if_neg (by omega)]
        rcases hp with rfl | rfl | rfl | rfl | rfl | rfl | rfl | rfl <;> omega
def Kw.ren (s : Nat → Nat) (k : Kw) : Kw := ⟨(s k.a.toNat : Nat), (s k.b.toNat : Nat)⟩
def Rc.ren (s : Nat → Nat) (r : Rc) : Rc := ⟨r.p, (s r.f.toNat : Nat), (s r.t.toNat : Nat)⟩
def Ch.ren (s : Nat → Nat) (c : Ch) : Ch := ⟨c.pl, c.ps, c.kn.map (Kw.ren s), c.rs.map (Rc.ren s), c.ms⟩
/-! Walks and distances -/
theorem wk_to {e e' : Nat → Nat → Bool} {s : Nat → Nat} (h : ∀ i j, e i j = true → e' (s i) (s j) = true) : ∀ n i j, Wk e n i j → Wk e' n (s i) (s j)
  | 0, i, j, hw => congrArg s hw
  | n + 1, i, j, ⟨m, h1, h2⟩ => ⟨s m, h _ _ h1, wk_to h n m j h2⟩
theorem wk_of {e e' : Nat → Nat → Bool} {s : Nat → Nat} {P : Nat} (h : ∀ i z, i < P → e' (s i) z = true → ∃ j, j < P ∧ z = s j ∧ e i j = true) : ∀ n i z, i < P → Wk e' n (s i) z → ∃ j, j < P ∧ z = s j ∧ Wk e n i j
  | 0, i, z, hi, hw => ⟨i, hi, (show s i = z from hw).symm, rfl⟩
  | n + 1, i, z, hi, ⟨m, h1, h2⟩ => by
    obtain ⟨j, hj, rfl, h3⟩ := h i m hi h1
    obtain ⟨k, hk, h4, h5⟩ := wk_of h n j z hj h2
    exact ⟨k, hk, h4, j, h3, h5⟩
theorem D_ren {e e' : Nat → Nat → Bool} {s : Nat → Nat} {P : Nat} (R : Ren P s) (he : ∀ a b, e a b = true → a < 8 ∧ b < 8) (he' : ∀ a b, e' a b = true → a < 8 ∧ b < 8)
    (h1 : ∀ i j, e i j = true → e' (s i) (s j) = true) (h2 : ∀ i z, i < P → e' (s i) z = true → ∃ j, j < P ∧ z = s j ∧ e i j = true) {i j : Nat} (hi : i < P) (hj : j < P) : D e' (s i) (s j) = D e i j := by
  have a1 := (D_ok e).le i j
  have a2 := (D_ok e').le (s i) (s j)
  have b1 : D e' (s i) (s j) ≤ D e i j := by
    by_cases h : D e i j < NEV
    · obtain ⟨n, hn, hw⟩ := D_sound h
      have := D_walk he' (wk_to h1 n i j hw)
      omega
    · omega
  have b2 : D e i j ≤ D e' (s i) (s j) := by
    by_cases h : D e' (s i) (s j) < NEV
    · obtain ⟨n, hn, hw⟩ := D_sound h
      obtain ⟨k, hk, hz, hw2⟩ := wk_of h2 n i _ hi hw
      have : j = k := R.inj _ _ hj hk hz
      subst this
      have := D_walk he hw2
      omega
    · omega
  omega
section
variable {c : Ch} (hv : c.valid = true) {s : Nat → Nat} (R : Ren c.ps.toNat s)
include hv R
theorem ren_valid : (c.ren s).valid = true := by
  have hn := valid_num hv
  obtain ⟨⟨h1, h2, h3⟩, h4, h5⟩ := valid_iff.1 hv
  refine valid_iff.2 ⟨⟨h1, by simpa [Ch.ren] using h2, by simpa [Ch.ren] using h3⟩, fun k hk => ?_, fun r hr => ?_⟩
  · obtain ⟨k0, hk0, rfl⟩ := List.mem_map.1 hk
    have hb := valid_kn hv hk0
    have l1 := R.lt k0.a.toNat (by omega)
    have l2 := R.lt k0.b.toNat (by omega)
    have l3 : s k0.a.toNat ≠ s k0.b.toNat := fun h => by have := R.inj _ _ (by omega) (by omega) h; omega
    have hz : badK c.ps ⟨(s k0.a.toNat : Nat), (s k0.b.toNat : Nat)⟩ = false := by
      simp only [badK]
      rw [decide_eq_true (by omega), decide_eq_true (by omega), decide_eq_true (by omega), decide_eq_true (by omega), decide_eq_false (by omega)]; rfl
    exact hz
  · obtain ⟨r0, hr0, rfl⟩ := List.mem_map.1 hr
    have hb := valid_rs hv hr0
    have l1 := R.lt r0.f.toNat (by omega)
    have l2 := R.lt r0.t.toNat (by omega)
    have l3 : s r0.f.toNat ≠ s r0.t.toNat := fun h => by have := R.inj _ _ (by omega) (by omega) h; omega
    have hz : badR c.pl c.ps ⟨r0.p, (s r0.f.toNat : Nat), (s r0.t.toNat : Nat)⟩ = false := by
      simp only [badR]
      rw [decide_eq_true (by omega), decide_eq_true (by omega), decide_eq_true (by omega), decide_eq_true (by omega), decide_eq_true (by omega), decide_eq_true (by omega), decide_eq_false (by omega)]; rfl
    exact hz
theorem know_ren {i j : Nat} (hi : i < c.ps.toNat) (hj : j < c.ps.toNat) : knowI (c.kn.map (Kw.ren s)) (s i : Nat) (s j : Nat) = knowI c.kn (i : Nat) (j : Nat) := by
  rw [Bool.eq_iff_iff, knowI, knowI, List.any_eq_true, List.any_eq_true]
  have key : ∀ k ∈ c.kn, ∀ x, x < c.ps.toNat → (((s k.a.toNat : Nat) : Int) = (s x : Nat) ↔ k.a = (x : Nat)) ∧ (((s k.b.toNat : Nat) : Int) = (s x : Nat) ↔ k.b = (x : Nat)) := fun k hk x hx => by
    have hb := valid_kn hv hk
    refine ⟨⟨fun h => ?_, fun h => ?_⟩, ⟨fun h => ?_, fun h => ?_⟩⟩
    · have := R.inj k.a.toNat x (by omega) hx (by omega); omega
    · rw [h]; rfl
    · have := R.inj k.b.toNat x (by omega) hx (by omega); omega
    · rw [h]; rfl
  constructor
  · rintro ⟨k, hk, hq⟩
    obtain ⟨k0, hk0, rfl⟩ := List.mem_map.1 hk
    refine ⟨k0, hk0, ?_⟩
    have k1 := key k0 hk0 i hi; have k2 := key k0 hk0 j hj
    simp only [knowQ, Kw.ren, Bool.or_eq_true, Bool.and_eq_true, decide_eq_true_eq, k1.1, k1.2, k2.1, k2.2] at hq
    simp only [knowQ, Bool.or_eq_true, Bool.and_eq_true, decide_eq_true_eq]
    exact hq
  · rintro ⟨k0, hk0, hq⟩
    refine ⟨k0.ren s, List.mem_map_of_mem hk0, ?_⟩
    have k1 := key k0 hk0 i hi; have k2 := key k0 hk0 j hj
    simp only [knowQ, Kw.ren, Bool.or_eq_true, Bool.and_eq_true, decide_eq_true_eq, k1.1, k1.2, k2.1, k2.2]
    simp only [knowQ, Bool.or_eq_true, Bool.and_eq_true, decide_eq_true_eq] at hq
    exact hq
omit R in
theorem know_ren2 {i z : Nat} (h : knowI (c.kn.map (Kw.ren s)) (s i : Nat) (z : Nat) = true) : ∃ j, j < c.ps.toNat ∧ z = s j := by
  obtain ⟨k, hk, hq⟩ := List.any_eq_true.1 h
  obtain ⟨k0, hk0, rfl⟩ := List.mem_map.1 hk
  have hb := valid_kn hv hk0
  simp only [knowQ, Kw.ren, Bool.or_eq_true, Bool.and_eq_true, decide_eq_true_eq] at hq
  rcases hq with ⟨_, h2⟩ | ⟨h2, _⟩
  · have h2 : ((s k0.b.toNat : Nat) : Int) = (z : Nat) := of_decide_eq_true h2
    exact ⟨k0.b.toNat, by omega, by omega⟩
  · have h2 : ((s k0.a.toNat : Nat) : Int) = (z : Nat) := of_decide_eq_true h2
    exact ⟨k0.a.toNat, by omega, by omega⟩
/-- The distances are the same, past one as past his other number. -/
theorem dist_ren {but but' : Int} (hb : ∀ i, i < c.ps.toNat → (((s i : Nat) : Int) = but' ↔ ((i : Nat) : Int) = but)) {i j : Nat} (hi : i < c.ps.toNat) (hj : j < c.ps.toNat) : D (eF (c.kn.map (Kw.ren s)) but') (s i) (s j) = D (eF c.kn but) i j := by
  have he : ∀ i j, i < c.ps.toNat → j < c.ps.toNat → eF (c.kn.map (Kw.ren s)) but' (s i) (s j) = eF c.kn but i j := fun i j hi hj => by
    simp only [eF, know_ren hv R hi hj]
    rw [show decide (((s i : Nat) : Int) = but') = decide (((i : Nat) : Int) = but) by simp only [hb i hi], show decide (((s j : Nat) : Int) = but') = decide (((j : Nat) : Int) = but) by simp only [hb j hj]]
  refine D_ren R (eF_in8 hv but) (eF_in8 (ren_valid hv R) but') (fun i j h => ?_) (fun i z hi h => ?_) hi hj
  · have h2 := eF_in hv but i j h
    show eF (c.kn.map (Kw.ren s)) but' (s i) (s j) = true
    rw [he i j h2.1 h2.2]; exact h
  · have h3 : knowI (c.kn.map (Kw.ren s)) (s i : Nat) (z : Nat) = true := by
      simp only [eF, Bool.and_eq_true] at h; exact h.2
    obtain ⟨j, hj, rfl⟩ := know_ren2 hv h3
    exact ⟨j, hj, rfl, by rw [← he i j hi hj]; exact h⟩
theorem dist_ren0 {i j : Nat} (hi : i < c.ps.toNat) (hj : j < c.ps.toNat) : D (eF (c.kn.map (Kw.ren s)) (-1)) (s i) (s j) = D (eF c.kn (-1)) i j := dist_ren hv R (fun i _ => by omega) hi hj
theorem dist_renU {u : Nat} (hu : u < c.ps.toNat) {i j : Nat} (hi : i < c.ps.toNat) (hj : j < c.ps.toNat) : D (eF (c.kn.map (Kw.ren s)) (s u : Nat)) (s i) (s j) = D (eF c.kn (u : Nat)) i j := dist_ren hv R (fun i hi => by
  constructor
  · intro h; have := R.inj i u hi hu (by omega); omega
  · intro h; rw [show i = u by omega]) hi hj
end
/-! Totals, holders, what is near -/
theorem totR_ren {f f' : Mx} {s : Nat → Nat} {P : Nat} (hf : ∀ i j, i < P → j < P → f' (s i) (s j) = f i j) : ∀ (l : List Rc) (h : Nat), h < P → (∀ r ∈ l, r.f.toNat < P ∧ r.t.toNat < P) → totR f' (s h) (l.map (Rc.ren s)) = totR f h l
  | [], h, _, _ => rfl
  | r :: l, h, hh, hl => by
    have h1 := hl r List.mem_cons_self
    simp only [List.map_cons, totR, Rc.ren, Int.toNat_natCast]
    rw [hf h r.f.toNat hh h1.1, totR_ren hf l r.t.toNat h1.2 fun r hr => hl r (List.mem_cons_of_mem _ hr)]
theorem viaR_ren {f f' : Mx} {s : Nat → Nat} {P : Nat} (hf : ∀ i j, i < P → j < P → f' (s i) (s j) = f i j) {u : Nat} {m : Int} (hu : u < P) : ∀ (l : List Rc) (h : Nat), h < P → (∀ r ∈ l, r.f.toNat < P ∧ r.t.toNat < P) → (viaR f' (s u) m (s h) (l.map (Rc.ren s)) ↔ viaR f u m h l)
  | [], h, hh, _ => by simp only [List.map_nil, viaR, hf h u hh hu]
  | r :: l, h, hh, hl => by
    have h1 := hl r List.mem_cons_self
    simp only [List.map_cons, viaR, Rc.ren, Int.toNat_natCast]
    rw [hf h u hh hu, hf u r.f.toNat hu h1.1, hf h r.f.toNat hh h1.1, viaR_ren hf hu l r.t.toNat h1.2 fun r hr => hl r (List.mem_cons_of_mem _ hr)]
theorem plR_ren {s : Nat → Nat} (rs : List Rc) (q : Int) : plR (rs.map (Rc.ren s)) q = (plR rs q).map (Rc.ren s) := by
  rw [plR, List.filter_map]; rfl
theorem hol_ren {s : Nat → Nat} (hz : s 0 = 0) {x : Int} {rs : List Rc} : ∀ k, holN x (rs.map (Rc.ren s)) k = ((s (holN x rs k).toNat : Nat) : Int)
  | 0 => by simp [holN, hz]
  | k + 1 => by
    simp only [holN, List.getElem?_map]
    cases rs[k]? with
    | none => exact hol_ren hz k
    | some r =>
      simp only [Option.map_some, Rc.ren]
      split
      · rfl
      · exact hol_ren hz k
section
variable {c : Ch} (hv : c.valid = true) {s : Nat → Nat} (R : Ren c.ps.toNat s)
include hv R
omit R in
theorem pl_in {q : Int} : ∀ r ∈ plR c.rs q, r.f.toNat < c.ps.toNat ∧ r.t.toNat < c.ps.toNat := fun r hr => by
  have := valid_rs hv (List.mem_filter.1 hr).1
  omega
theorem tot_ren (q : Int) : totR (D (eF (c.kn.map (Kw.ren s)) (-1))) 0 (plR (c.rs.map (Rc.ren s)) q) = totR (D (eF c.kn (-1))) 0 (plR c.rs q) := by
  have hn := valid_num hv
  rw [plR_ren]
  have := totR_ren (fun i j hi hj => dist_ren0 hv R hi hj) (plR c.rs q) 0 (by omega) (pl_in hv)
  rwa [R.z] at this
theorem tot_renU (q : Int) {u : Nat} (hu : u < c.ps.toNat) : totR (D (eF (c.kn.map (Kw.ren s)) (s u : Nat))) 0 (plR (c.rs.map (Rc.ren s)) q) = totR (D (eF c.kn (u : Nat))) 0 (plR c.rs q) := by
  have hn := valid_num hv
  rw [plR_ren]
  have := totR_ren (fun i j hi hj => dist_renU hv R hu hi hj) (plR c.rs q) 0 (by omega) (pl_in hv)
  rwa [R.z] at this
theorem sum_ren : ∀ k, sumR (D (eF (c.kn.map (Kw.ren s)) (-1))) (c.rs.map (Rc.ren s)) k = sumR (D (eF c.kn (-1))) c.rs k
  | 0 => by simp only [sumR]
  | k + 1 => by
    have h1 := sum_ren k
    have h2 := tot_ren hv R (k : Nat)
    simp only [sumR]
    rw [h1]
    exact congrArg _ h2
theorem least_ren : leastC (c.ren s) = leastC c := by rw [least_sumR, least_sumR]; exact sum_ren hv R _
theorem where_ren {p : Int} {u : Nat} (hu : u < c.ps.toNat) : (whereC (c.ren s) p).testBit (s u) = (whereC c p).testBit u := by
  have hhl := hol_lt hv (p := p) c.rs.length
  rw [whereC_bit, whereC_bit, least_ren hv R, decide_eq_true hu, decide_eq_true (show s u < (c.ren s).ps.toNat from R.lt u hu)]
  have e1 : (holN p (c.ren s).rs (c.ren s).rs.length).toNat = s (holN p c.rs c.rs.length).toNat := by
    show (holN p (c.rs.map (Rc.ren s)) (c.rs.map (Rc.ren s)).length).toNat = _
    rw [hol_ren R.z, List.length_map, Int.toNat_natCast]
  rw [e1]
  have e2 : D (eF (c.ren s).kn (-1)) (s (holN p c.rs c.rs.length).toNat) (s u) = D (eF c.kn (-1)) (holN p c.rs c.rs.length).toNat u := dist_ren0 hv R (by omega) hu
  rw [e2]; rfl
theorem named_ren {p : Int} {u : Nat} (hu : u < c.ps.toNat) : (namedN (selN p (allS (c.ren s).rs.length) (c.ren s).rs (c.ren s).rs.length)).testBit (s u) = (namedN (selN p (allS c.rs.length) c.rs c.rs.length)).testBit u := by
  have hn := valid_num hv
  rw [Bool.eq_iff_iff, named_R, named_R, sel_plR, sel_plR]
  show (0 = s u ∨ ∃ r ∈ plR (c.rs.map (Rc.ren s)) p, r.f.toNat = s u ∨ r.t.toNat = s u) ↔ _
  rw [plR_ren]
  constructor
  · rintro (h | ⟨r, hr, h⟩)
    · exact .inl (R.inj 0 u (by omega) hu (by rw [R.z]; exact h))
    · obtain ⟨r0, hr0, rfl⟩ := List.mem_map.1 hr
      have hi := pl_in hv r0 hr0
      simp only [Rc.ren, Int.toNat_natCast] at h
      exact .inr ⟨r0, hr0, h.imp (R.inj _ _ hi.1 hu) (R.inj _ _ hi.2 hu)⟩
  · rintro (h | ⟨r, hr, h⟩)
    · subst h; exact .inl R.z.symm
    · exact .inr ⟨r.ren s, List.mem_map_of_mem hr, by simp only [Rc.ren, Int.toNat_natCast]; exact h.imp (fun h => by rw [h]) (fun h => by rw [h])⟩
theorem sur_ren {p : Int} {u : Nat} (hu : u < c.ps.toNat) : surQ (c.ren s) p (s u) = surQ c p u := by
  simp only [surQ, sureQ]
  rw [named_ren hv R hu, least_ren hv R, tot_plR, tot_plR, tot_plR, tot_plR]
  have e1 := tot_ren hv R p
  have e2 := tot_renU hv R p hu
  have e3 : totR (D (eF (c.ren s).kn (-1))) 0 (plR (c.ren s).rs p) = totR (D (eF c.kn (-1))) 0 (plR c.rs p) := e1
  have e4 : totR (D (eF (c.ren s).kn (s u : Nat))) 0 (plR (c.ren s).rs p) = totR (D (eF c.kn (u : Nat))) 0 (plR c.rs p) := e2
  rw [e3, e4]; rfl
theorem can_ren (hc : leastC c ≤ c.ms) {p : Int} {u : Nat} (hu : u < c.ps.toNat) : canQ (c.ren s) p (s u) = canQ c p u := by
  have hn := valid_num hv
  rw [Bool.eq_iff_iff, canQ_iff hc, canQ_iff (c := c.ren s) (by rw [least_ren hv R]; exact hc), least_ren hv R, sel_plR, sel_plR]
  show viaR (D (eF (c.kn.map (Kw.ren s)) (-1))) (s u) (c.ms - leastC c) 0 (plR (c.rs.map (Rc.ren s)) p) ↔ _
  rw [plR_ren]
  have := viaR_ren (m := c.ms - leastC c) (fun i j hi hj => dist_ren0 hv R hi hj) hu (plR c.rs p) 0 (by omega) (pl_in hv)
  rwa [R.z] at this
theorem fb_ren {x : Int} : ∀ k, fbN x (c.rs.map (Rc.ren s)) k = fbN x c.rs k
  | 0 => rfl
  | k + 1 => by
    cases hr : c.rs[k]? with
    | none => simp only [fbN, List.getElem?_map, hr, Option.map_none]; exact fb_ren k
    | some r =>
      have hb := valid_rs hv (List.mem_of_getElem? hr)
      have hhl := hol_lt hv (p := x) k
      have e : (((s (holN x c.rs k).toNat : Nat) : Int) = ((s r.f.toNat : Nat) : Int)) ↔ holN x c.rs k = r.f := by
        constructor
        · intro h; have := R.inj (holN x c.rs k).toNat r.f.toNat (by omega) (by omega) (by omega); omega
        · intro h; rw [h]
      simp only [fbN, List.getElem?_map, hr, Option.map_some, Rc.ren, hol_ren R.z, e, fb_ren k]
theorem brk_ren (x : Int) : brkV (c.ren s) x = brkV c x := by
  rw [brkV_fb, brkV_fb]
  have e : fbN x (c.ren s).rs (c.ren s).rs.length = fbN x c.rs c.rs.length := by
    show fbN x (c.rs.map (Rc.ren s)) (c.rs.map (Rc.ren s)).length = _
    rw [List.length_map, fb_ren hv R]
  rw [e]
end
/-! Bits under their other numbers -/
def accN (s : Nat → Nat) (w : Nat) : Nat → Nat
  | 0 => 0
  | k + 1 => accN s w k ||| (w / 2 ^ k % 2 * 2 ^ s k)
theorem one_bitN (w k r j : Nat) : (w / 2 ^ k % 2 * 2 ^ r).testBit j = (w.testBit k && decide (r = j)) := by
  cases h : w.testBit k with
  | true => rw [bit_one.2 h, Nat.one_mul, Nat.testBit_two_pow, Bool.true_and]
  | false => rw [bit_zero.2 h, Nat.zero_mul, Nat.zero_testBit, Bool.false_and]
theorem acc_bit {s : Nat → Nat} {w j : Nat} : ∀ k, (accN s w k).testBit j = true ↔ ∃ i, i < k ∧ w.testBit i = true ∧ s i = j
  | 0 => by simp [accN]
  | k + 1 => by
    rw [accN, Nat.testBit_or, Bool.or_eq_true, acc_bit k, one_bitN, Bool.and_eq_true, decide_eq_true_iff]
    constructor
    · rintro (⟨i, h1, h2, h3⟩ | ⟨h2, h3⟩)
      · exact ⟨i, by omega, h2, h3⟩
      · exact ⟨k, by omega, h2, h3⟩
    · rintro ⟨i, h1, h2, h3⟩
      by_cases e : i = k
      · subst e; exact .inr ⟨h2, h3⟩
      · exact .inl ⟨i, by omega, h2, h3⟩
theorem acc_eq {P : Nat} {s : Nat → Nat} (R : Ren P s) {w w' : Nat} (hw' : w' < 2 ^ P) (h : ∀ u, u < P → w'.testBit (s u) = w.testBit u) : accN s w P = w' := by
  apply Nat.eq_of_testBit_eq
  intro j
  rw [Bool.eq_iff_iff, acc_bit]
  constructor
  · rintro ⟨i, h1, h2, rfl⟩
    rw [h i h1]; exact h2
  · intro hj
    have hjP : j < P := by
      rcases Nat.lt_or_ge j P with g | g
      · exact g
      · rw [Nat.testBit_lt_two_pow (Nat.lt_of_lt_of_le hw' (Nat.pow_le_pow_right (by omega) g))] at hj; cases hj
    obtain ⟨u, hu, rfl⟩ := R.onto j hjP
    rw [h u hu] at hj
    exact ⟨u, hu, hj, rfl⟩
theorem acc_lt {P : Nat} {s : Nat → Nat} (R : Ren P s) (w : Nat) : ∀ k, k ≤ P → accN s w k < 2 ^ P
  | 0, _ => Nat.two_pow_pos P
  | k + 1, h => by
    refine Nat.or_lt_two_pow (acc_lt R w k (by omega)) ?_
    have h1 := R.lt k (by omega)
    have h2 : 2 ^ s k < 2 ^ P := Nat.pow_lt_pow_right (by omega) h1
    have h3 : w / 2 ^ k % 2 < 2 := Nat.mod_lt _ (by omega)
    have h4 : w / 2 ^ k % 2 = 0 ∨ w / 2 ^ k % 2 = 1 := by omega
    rcases h4 with h4 | h4
    · rw [h4, Nat.zero_mul]; exact Nat.two_pow_pos P
    · rw [h4, Nat.one_mul]; exact h2
end Go.Proofs.Ytagdholenfkeaaa

/- Pairs in another order; the records of one plate alone. -/
namespace Go.Proofs.Ytagdholenfkeaaa
open Go.Gh
set_option maxRecDepth 100000
/-- The pairs from the last to the first, each turned. -/
def turnK (l : List Kw) : Nat → List Kw
  | 0 => []
  | k + 1 => turnK l k ++ [match l[l.length - 1 - k]? with | some z => ⟨z.b, z.a⟩ | none => ⟨0, 0⟩]
theorem turn_next {l : List Kw} {k : Nat} {z : Kw} (h : l[l.length - 1 - k]? = some z) : turnK l (k + 1) = turnK l k ++ [⟨z.b, z.a⟩] := by
  simp only [turnK, h]
theorem turn_len (l : List Kw) : ∀ k, (turnK l k).length = k
  | 0 => rfl
  | k + 1 => by simp [turnK, turn_len l k]
theorem turn_any {l : List Kw} {a b : Int} : ∀ k, k ≤ l.length → (knowI (turnK l k) a b = true ↔ ∃ i, i < k ∧ ∃ z, l[l.length - 1 - i]? = some z ∧ knowQ a b z = true)
  | 0, _ => by simp [turnK, knowI]
  | k + 1, h => by
    obtain ⟨z, hz⟩ : ∃ z, l[l.length - 1 - k]? = some z := ⟨l[l.length - 1 - k], List.getElem?_eq_getElem _⟩
    have e : knowQ a b ⟨z.b, z.a⟩ = knowQ a b z := by
      simp only [knowQ]
      rw [Bool.or_comm, Bool.and_comm, Bool.and_comm (decide (z.b = a))]
    rw [turn_next hz, knowI, List.any_append, Bool.or_eq_true]
    have ih := turn_any (l := l) (a := a) (b := b) k (by omega)
    rw [knowI] at ih
    rw [ih]
    simp only [List.any_cons, List.any_nil, Bool.or_false, e]
    constructor
    · rintro (⟨i, h1, h2⟩ | h2)
      · exact ⟨i, by omega, h2⟩
      · exact ⟨k, by omega, z, hz, h2⟩
    · rintro ⟨i, h1, z2, h2, h3⟩
      by_cases ei : i = k
      · subst ei; rw [hz] at h2; cases h2; exact .inr h3
      · exact .inl ⟨i, by omega, z2, h2, h3⟩
theorem turn_know (l : List Kw) (a b : Int) : knowI (turnK l l.length) a b = knowI l a b := by
  rw [Bool.eq_iff_iff, turn_any l.length (Nat.le_refl _), knowI, List.any_eq_true]
  constructor
  · rintro ⟨i, _, z, h, hq⟩
    exact ⟨z, List.mem_of_getElem? h, hq⟩
  · rintro ⟨z, hz, hq⟩
    obtain ⟨i, hi, e⟩ := List.getElem_of_mem hz
    exact ⟨l.length - 1 - i, by omega, z, by rw [show l.length - 1 - (l.length - 1 - i) = i by omega, List.getElem?_eq_getElem hi, e], hq⟩
theorem turn_eF (l : List Kw) (but : Int) : eF (turnK l l.length) but = eF l but := by
  funext i k
  simp only [eF, turn_know]
def Ch.turn (c : Ch) : Ch := ⟨c.pl, c.ps, turnK c.kn c.kn.length, c.rs, c.ms⟩
theorem turn_least (c : Ch) : leastC c.turn = leastC c := by
  show allV (D (eF (turnK c.kn c.kn.length) (-1))) c.rs (allS c.rs.length) c.pl.toNat = leastC c
  rw [turn_eF]; rfl
theorem turn_where (c : Ch) (p : Int) : whereC c.turn p = whereC c p := by
  have e : eF c.turn.kn (-1) = eF c.kn (-1) := turn_eF c.kn (-1)
  unfold whereC
  rw [e, turn_least]; rfl
theorem turn_in {l : List Kw} : ∀ k, k ≤ l.length → ∀ y ∈ turnK l k, ∃ z ∈ l, y = ⟨z.b, z.a⟩
  | 0, _, y, hy => by simp [turnK] at hy
  | k + 1, h, y, hy => by
    obtain ⟨z, hz⟩ : ∃ z, l[l.length - 1 - k]? = some z := ⟨l[l.length - 1 - k], List.getElem?_eq_getElem _⟩
    rw [turn_next hz] at hy
    rcases List.mem_append.1 hy with hy | hy
    · exact turn_in k (by omega) y hy
    · rw [List.mem_singleton] at hy
      exact ⟨z, List.mem_of_getElem? hz, hy⟩
theorem turn_valid {c : Ch} (hv : c.valid = true) : c.turn.valid = true := by
  obtain ⟨⟨h1, h2, h3⟩, h4, h5⟩ := valid_iff.1 hv
  refine valid_iff.2 ⟨⟨h1, by show (turnK c.kn c.kn.length).length ≤ 28; rw [turn_len]; exact h2, h3⟩, fun k hk => ?_, h5⟩
  obtain ⟨z, hz, rfl⟩ := turn_in c.kn.length (Nat.le_refl _) k hk
  have hb := valid_kn hv hz
  show badK c.ps ⟨z.b, z.a⟩ = false
  simp only [badK]
  rw [decide_eq_true (by omega), decide_eq_true (by omega), decide_eq_true (by omega), decide_eq_true (by omega), decide_eq_false (by omega)]; rfl
/-! The records of one plate -/
def isP (x : Int) (r : Rc) : Bool := decide (r.p = x)
def posN (x : Int) (rs : List Rc) (k : Nat) : Nat := ((rs.take k).filter (isP x)).length
section
variable {x : Int} {rs : List Rc}
theorem pos_next {k : Nat} {r : Rc} (hr : rs[k]? = some r) (h : r.p = x) : posN x rs (k + 1) = posN x rs k + 1 := by
  rw [posN, filt_next (q := isP x) hr (decide_eq_true h), List.length_append]; rfl
theorem pos_skip {k : Nat} {r : Rc} (hr : rs[k]? = some r) (h : ¬ r.p = x) : posN x rs (k + 1) = posN x rs k := by
  rw [posN, filt_skip (q := isP x) hr (decide_eq_false h)]; rfl
theorem pos_get {k : Nat} {r : Rc} (hr : rs[k]? = some r) (h : r.p = x) : (rs.filter (isP x))[posN x rs k]? = some r := by
  obtain ⟨hk, e⟩ := List.getElem?_eq_some_iff.1 hr
  have hs : rs = rs.take k ++ r :: rs.drop (k + 1) := by rw [← e, ← List.drop_eq_getElem_cons hk, List.take_append_drop]
  have hf : rs.filter (isP x) = (rs.take k).filter (isP x) ++ r :: (rs.drop (k + 1)).filter (isP x) := by
    have := congrArg (List.filter (isP x)) hs
    rw [List.filter_append, List.filter_cons_of_pos (show isP x r = true from decide_eq_true h)] at this
    exact this
  rw [hf, posN, List.getElem?_append_right (Nat.le_refl _), Nat.sub_self]; rfl
theorem hol_only : ∀ k, k ≤ rs.length → holN x (rs.filter (isP x)) (posN x rs k) = holN x rs k
  | 0, _ => by simp [posN, holN]
  | k + 1, h => by
    obtain ⟨r, hr⟩ : ∃ r, rs[k]? = some r := ⟨rs[k], List.getElem?_eq_getElem _⟩
    by_cases hp : r.p = x
    · rw [pos_next hr hp]
      simp only [holN, pos_get hr hp, hr]
      rw [if_pos hp, if_pos hp]
    · rw [pos_skip hr hp, hol_only k (by omega)]
      simp only [holN, hr]
      rw [if_neg hp]
theorem fb_only : ∀ k, k ≤ rs.length → fbN x (rs.filter (isP x)) (posN x rs k) = if fbN x rs k < 0 then -1 else ((posN x rs (fbN x rs k).toNat : Nat) : Int)
  | 0, _ => by simp [posN, fbN]
  | k + 1, h => by
    obtain ⟨r, hr⟩ : ∃ r, rs[k]? = some r := ⟨rs[k], List.getElem?_eq_getElem _⟩
    have ih := fb_only k (by omega)
    by_cases hp : r.p = x
    · rw [pos_next hr hp]
      have hg := pos_get hr hp
      have hh := hol_only (x := x) (rs := rs) k (by omega)
      by_cases h3 : fbN x rs k < 0
      · rw [if_pos h3] at ih
        by_cases h2 : holN x rs k = r.f
        · rw [fb_same hg (hh.trans h2), fb_same hr h2, if_pos h3, ih]
        · rw [fb_new hg hp (by rw [hh]; exact h2) (by omega), fb_new hr hp h2 h3, if_neg (by omega), Int.toNat_natCast]
      · rw [if_neg h3] at ih
        rw [fb_has hg (by omega), fb_has hr h3, if_neg h3, ih]
    · rw [pos_skip hr hp, fb_skip hr hp, ih]
theorem pos_all : posN x rs rs.length = (rs.filter (isP x)).length := by rw [posN, List.take_length]
end
theorem fb_rec {x : Int} {rs : List Rc} : ∀ k, ¬ fbN x rs k < 0 → ∃ r, rs[(fbN x rs k).toNat]? = some r ∧ r.p = x
  | 0, h => absurd (by simp [fbN]) h
  | k + 1, h => by
    cases hr : rs[k]? with
    | none =>
      have e : fbN x rs (k + 1) = fbN x rs k := by simp only [fbN, hr]
      rw [e] at h ⊢; exact fb_rec k h
    | some r =>
      by_cases hp : r.p = x
      · by_cases h3 : fbN x rs k < 0
        · by_cases h2 : holN x rs k = r.f
          · rw [fb_same hr h2] at h; exact absurd h3 h
          · rw [fb_new hr hp h2 h3, Int.toNat_natCast]; exact ⟨r, hr, hp⟩
        · rw [fb_has hr h3] at h ⊢; exact fb_rec k h
      · rw [fb_skip hr hp] at h ⊢; exact fb_rec k h
def Ch.only (c : Ch) (x : Int) : Ch := ⟨c.pl, c.ps, c.kn, c.rs.filter (isP x), c.ms⟩
theorem only_valid {c : Ch} (hv : c.valid = true) (x : Int) : (c.only x).valid = true := by
  have hn := valid_num hv
  have h := List.length_filter_le (isP x) c.rs
  exact valid_sub hv (by omega) (by omega) (fun k hk => hk) fun r hr => (List.mem_filter.1 hr).1
theorem only_hol (c : Ch) (x : Int) : holN x (c.only x).rs (c.only x).rs.length = holN x c.rs c.rs.length := by
  have := hol_only (x := x) (rs := c.rs) c.rs.length (Nat.le_refl _)
  rw [pos_all] at this; exact this
/-- The first break of a plate, by its own records: none for none, the same record for one, and the same way to it. -/
theorem only_brk {c : Ch} (hv : c.valid = true) {x : Int} (hx : inQ x c.pl = true) :
    (fbN x c.rs c.rs.length < 0 ∧ fbN x (c.only x).rs (c.only x).rs.length < 0) ∨
    ∃ (k k' : Nat) (r : Rc), fbN x c.rs c.rs.length = k ∧ fbN x (c.only x).rs (c.only x).rs.length = k' ∧ c.rs[k]? = some r ∧ (c.only x).rs[k']? = some r ∧ pathA (c.only x) x k' = pathA c x k := by
  have hf := fb_only (x := x) (rs := c.rs) c.rs.length (Nat.le_refl _)
  rw [pos_all] at hf
  have hf : fbN x (c.only x).rs (c.only x).rs.length = if fbN x c.rs c.rs.length < 0 then -1 else ((posN x c.rs (fbN x c.rs c.rs.length).toNat : Nat) : Int) := hf
  by_cases h : fbN x c.rs c.rs.length < 0
  · rw [if_pos h] at hf
    exact .inl ⟨h, by omega⟩
  · rw [if_neg h] at hf
    obtain ⟨r, hr, hp⟩ := fb_rec c.rs.length h
    have hk : (fbN x c.rs c.rs.length).toNat < c.rs.length := (List.getElem?_eq_some_iff.1 hr).1
    have hr2 : (c.only x).rs[posN x c.rs (fbN x c.rs c.rs.length).toNat]? = some r := pos_get hr hp
    have hk2 : posN x c.rs (fbN x c.rs c.rs.length).toNat < (c.only x).rs.length := (List.getElem?_eq_some_iff.1 hr2).1
    refine .inr ⟨(fbN x c.rs c.rs.length).toNat, posN x c.rs (fbN x c.rs c.rs.length).toNat, r, by omega, hf, hr, hr2, ?_⟩
    have hh : holN x (c.only x).rs (posN x c.rs (fbN x c.rs c.rs.length).toNat) = holN x c.rs (fbN x c.rs c.rs.length).toNat := hol_only _ (by omega)
    have q1 : pathQ c x ((fbN x c.rs c.rs.length).toNat : Nat) = true := by
      simp only [pathQ, Int.toNat_natCast, hr, hx]
      rw [decide_eq_true (by omega), decide_eq_true (by omega), decide_eq_true hp]; rfl
    have q2 : pathQ (c.only x) x (posN x c.rs (fbN x c.rs c.rs.length).toNat : Nat) = true := by
      have hx2 : inQ x (c.only x).pl = true := hx
      simp only [pathQ, Int.toNat_natCast, hr2, hx2]
      rw [decide_eq_true (by omega), decide_eq_true (by omega), decide_eq_true hp]; rfl
    rw [pathA, if_pos (only_valid hv x), if_pos q2, pathA, if_pos hv, if_pos q1]
    simp only [Int.toNat_natCast, hr, hr2, hh]
    rfl
end Go.Proofs.Ytagdholenfkeaaa

/- The closures of ChainTurned: another number, a set under other numbers. -/
namespace Go.Proofs.Ytagdholenfkeaaa
open Go.Gh
set_option maxRecDepth 100000
set_option maxHeartbeats 4000000
structure kBl1 (c : Prop) : Prop where
  h : c := by (first | exact True.intro | omega | (simp only [inI]; omega) | (simp [P.size, pr, pk, all_int, allOne_p, goods_p, allOne, goods, good, G.one, P.one, P.cells] <;> first | omega | assumption | simp_all))
theorem rn_zero (P b : Nat) : (0 : Int) = ((rn P b 0 : Nat) : Int) := rfl
theorem rn_int {m : Int} (hm : 1 ≤ m ∧ m ≤ 8) {b x : Nat} (hx : x < m.toNat) (h0 : ¬ x = 0) : 1 + ((x : Int) - 1 + (b : Nat)).tmod (m - 1) = ((rn m.toNat b x : Nat) : Int) := by
  rw [rn, if_neg h0, show (x : Int) - 1 + (b : Nat) = ((x - 1 + b : Nat) : Int) by omega, show m - 1 = ((m.toNat - 1 : Nat) : Int) by omega, ← Int.ofNat_tmod]
  omega
theorem rn_in {m : Int} (hm : 1 ≤ m ∧ m ≤ 8) {b x : Nat} (hx : x < m.toNat) : (rn m.toNat b x : Int) < m := by
  have := (rn_ren (P := m.toNat) (b := b) (by omega)).lt x hx
  omega
theorem shl_bit (w k r : Nat) (hr : r ≤ 40) : IntKind.i64.wrap (bitN w k * 2 ^ min r IntKind.i64.bits) = ((w / 2 ^ k % 2 * 2 ^ r : Nat) : Int) := by
  have h : w / 2 ^ k % 2 = 0 ∨ w / 2 ^ k % 2 = 1 := by omega
  rw [bitN]
  rcases h with h | h
  · rw [h, Nat.zero_mul]
    show IntKind.i64.wrap (0 * _) = 0
    rw [Int.zero_mul]; rfl
  · rw [h, Nat.one_mul]; exact shl_b r hr
theorem bit_lt62 (w k : Nat) {r : Nat} (hr : r ≤ 8) : w / 2 ^ k % 2 * 2 ^ r < 2 ^ 62 := by
  have h : w / 2 ^ k % 2 = 0 ∨ w / 2 ^ k % 2 = 1 := by omega
  rcases h with h | h
  · rw [h, Nat.zero_mul]; decide
  · rw [h, Nat.one_mul]; exact Nat.pow_lt_pow_right (by omega) (by omega)
theorem ent39 : Enters Try.prog 39 := Enters.mk Try.func39 (by kernel_rfl) rfl
theorem q_39 {E : Env Try.prog} {A : E.α} (c : Ch) (hv : c.valid = true) (b x : Nat) (hb : b ≤ 255) (hx : x < c.ps.toNat) : Gh.Spec E 39 [.p (.int .i64 (x : Nat)), .ptr [.p (.int .u8 (b : Nat))], .ptr [.p (.int .i64 c.pl), .p (.int .i64 c.ps), .p (.list (c.kn.map pk)), .p (.list (c.rs.map pr)), .p (.int .i64 c.ms)]] (mkHp []) A (fun y => y = .ok (.p (.int .i64 (rn c.ps.toNat b x : Nat))) (mkHp []) A) := by
  refine spec_of Try.func39 (rfl : Try.f39.body = some _) (Nat.le_of_ble_eq_true rfl) (fun id h => ?_) (fun j id h => ?_) ?_
  · exact wf1x h
  · exact wf2x h
  intro C hN hL
  replace hN : C.N = 17 := hN
  simp only [Gh.num, List.map_cons, List.map_nil, Nat.reduceAdd]
  have hn := valid_num hv
  repeat refine gwp_seq ?_
  refine gwp_region ?_
  refine v0 (k := ?_)
  refine nil0 ?_
  refine cl [0, 1, 2] (k := ?_)
  repeat refine gwp_seq ?_
  refine gwp_region ?_
  refine v0 (k := ?_)
  refine v0 (k := ?_)
  refine nil0 ?_
  repeat refine gwp_seq ?_
  refine cB (k1 := fun hb1 => ?_) (k0 := fun hb1 => ?_)
  · replace hb1 := hB.h {} hb1
    try rw [eqI] at hb1
    repeat refine gwp_seq ?_
    refine gwp_region ?_
    refine v0 (k := ?_)
    refine nil0 ?_
    repeat refine gwp_seq ?_
    refine gwp_ret ?_
    repeat (first | refine gthen_ret ?_ | refine gblock_ret ?_ | refine gnoGoto_ret ?_)
    refine fin_ret ?_
    refine fp (hR := ?_)
    first
    | rfl
    | (obtain rfl : x = 0 := by omega
       rfl)
  · replace hb1 := hB.h {} hb1
    try rw [eqI] at hb1
    repeat refine gwp_seq ?_
    refine gwp_skip ?_
    refine cl [0, 1, 2] (k := ?_)
    repeat refine gwp_seq ?_
    have hr2 := rn_in (b := b) hn.2.1 hx
    have hr1 := rn_int (b := b) hn.2.1 hx (by omega)
    refine gwp_region ?_
    refine v0 (k := ?_)
    refine v1 (hc := kBl1.h {}) (k := ?_)
    refine v0 (k := ?_)
    refine v1 (hc := kBl1.h {}) (k := ?_)
    refine v1 (hc := kBl1.h {}) (k := ?_)
    refine v0 (k := ?_)
    refine v0 (k := ?_)
    refine v1 (hc := kBl1.h {}) (k := ?_)
    refine v1 (hc := kBl1.h {}) (k := ?_)
    refine v1 (hc := kBl1.h {}) (k := ?_)
    refine v0 (k := ?_)
    refine nil0 ?_
    repeat refine gwp_seq ?_
    refine gwp_ret ?_
    repeat (first | refine gthen_ret ?_ | refine gblock_ret ?_ | refine gnoGoto_ret ?_)
    refine fin_ret ?_
    refine fp (hR := ?_)
    first
    | rfl
    | (obtain rfl : x = 0 := by omega
       rfl)
theorem ent40 : Enters Try.prog 40 := Enters.mk Try.func40 (by kernel_rfl) rfl
theorem q_40 {E : Env Try.prog} {A : E.α} (c : Ch) (hv : c.valid = true) (b w : Nat) (hb : b ≤ 255) (hw : w < 2 ^ 62) : Gh.Spec E 40 [.p (.int .i64 (w : Nat)), .ptr [.p (.int .i64 c.pl), .p (.int .i64 c.ps), .p (.list (c.kn.map pk)), .p (.list (c.rs.map pr)), .p (.int .i64 c.ms)], .ptr [.fn (.func 39) [] [.ptr [.p (.int .u8 (b : Nat))], .ptr [.p (.int .i64 c.pl), .p (.int .i64 c.ps), .p (.list (c.kn.map pk)), .p (.list (c.rs.map pr)), .p (.int .i64 c.ms)]]]] (mkHp []) A (fun y => y = .ok (.p (.int .i64 ((accN (rn c.ps.toNat b) w c.ps.toNat) : Nat))) (mkHp []) A) := by
  refine spec_of Try.func40 (rfl : Try.f40.body = some _) (Nat.le_of_ble_eq_true rfl) (fun id h => ?_) (fun j id h => ?_) ?_
  · exact wf1x h
  · exact wf2x h
  intro C hN hL
  replace hN : C.N = 23 := hN
  simp only [Gh.num, List.map_cons, List.map_nil, Nat.reduceAdd]
  have hn := valid_num hv
  repeat refine gwp_seq ?_
  refine gwp_region ?_
  refine v0 (k := ?_)
  refine nil0 ?_
  refine cl [0, 1, 2, 4] (k := ?_)
  repeat refine gwp_seq ?_
  refine gwp_region ?_
  refine v0 (k := ?_)
  refine v0 (k := ?_)
  refine v0 (k := ?_)
  refine nil0 ?_
  refine cl [0, 2, 4, 7, 8] (k := ?_)
  repeat refine gwp_seq ?_
  refine gwp_block ?_
  repeat refine gwp_seq ?_
  refine gc_loop (fun mz σ => ∃ k : Nat, ((k : Int) ≤ c.ps) ∧ mz = c.ps.toNat - k ∧ σ = (sg [(0, .p (.int .i64 (w : Nat))), (2, .ptr [.fn (.func 39) [] [.ptr [.p (.int .u8 (b : Nat))], .ptr [.p (.int .i64 c.pl), .p (.int .i64 c.ps), .p (.list (c.kn.map pk)), .p (.list (c.rs.map pr)), .p (.int .i64 c.ms)]]]), (4, .p (.int .i64 ((accN (rn c.ps.toNat b) w k) : Nat))), (7, .p (.int .i64 c.ps)), (8, .p (.int .i64 (k : Nat)))] [] A [] : Sg E)) ?_ (fun mz σ hI => ?_)
  · refine lbeg [0, 2, 4, 7, 8] (hV := ?_)
    exact ⟨_, 0, by omega, rfl, rfl⟩
  obtain ⟨k, hk, hnn, rfl⟩ := hI
  repeat refine gwp_seq ?_
  refine gwp_region ?_
  refine v0 (k := ?_)
  refine nil0 ?_
  repeat refine gwp_seq ?_
  refine cB (k1 := fun hb1 => ?_) (k0 := fun hb1 => ?_)
  · replace hb1 := hB.h {} hb1
    try rw [eqI] at hb1
    repeat refine gwp_seq ?_
    refine gwp_skip ?_
    refine cl [0, 2, 4, 7, 8] (k := ?_)
    repeat refine gwp_seq ?_
    refine gwp_block ?_
    repeat refine gwp_seq ?_
    refine gwp_region ?_
    refine v0 (k := ?_)
    refine v0 (k := ?_)
    refine nil0 ?_
    refine cl [0, 2, 4, 5, 7, 8] (k := ?_)
    repeat refine gwp_seq ?_
    have hkP : k < c.ps.toNat := by omega
    have hrl := rn_in (b := b) hn.2.1 hkP
    have f14 := shr_b w k (by omega)
    have f15 := and_b w k hw
    have hrn := (rn_ren (P := c.ps.toNat) (b := b) (by omega)).lt k hkP
    have f19 := shl_bit w k (rn c.ps.toNat b k) (by omega)
    have hac := acc_lt (rn_ren (P := c.ps.toNat) (b := b) (by omega)) w k (by omega)
    have hpp : 2 ^ c.ps.toNat ≤ 256 := Nat.le_trans (Nat.pow_le_pow_right (by omega) (show c.ps.toNat ≤ 8 by omega)) (by decide)
    have f20 := bitop_or_i64 (accN (rn c.ps.toNat b) w k) (w / 2 ^ k % 2 * 2 ^ rn c.ps.toNat b k) (by omega) (bit_lt62 w k (by omega))
    refine rd ?_
    refine d0 0 (k := ?_)
    refine d0 1 (k := ?_)
    refine d0 2 (k := ?_)
    refine d1 3 (hc := kBl1.h {}) (k := ?_)
    refine d0 4 (k := ?_)
    refine d0 5 (k := ?_)
    refine d0 6 (k := ?_)
    refine doc0 7 [] [] [0, 0, 0] none (spec := q_39 c hv b k hb (by omega)) (hent := ent39) (k := ?_)
    refine d1 8 (hc := kBl1.h {}) (k := ?_)
    refine d0 9 (k := ?_)
    refine d0 10 (k := ?_)
    refine dz 11 [0, 0, 0, 6, 14, 0, 0, 96, 254, 511, 1023] (h := ?_)
    refine de 11 (h := ?_)
    refine cl [0, 2, 4, 7, 8] (k := ?_)
    repeat refine gwp_seq ?_
    refine gwp_region ?_
    refine v1 (hc := kBl1.h {}) (k := ?_)
    refine v0 (k := ?_)
    refine nil0 ?_
    refine lend [0, 2, 4, 7, 8] (h := ?_) (hV := ?_) (n' := c.ps.toNat - (k + 1))
    · omega
    exact ⟨k + 1, by omega, rfl, rfl⟩
  · replace hb1 := hB.h {} hb1
    try rw [eqI] at hb1
    repeat refine gwp_seq ?_
    refine gwp_exit ?_
    repeat (first | refine gthen_exit ?_ | refine gnoGoto_exit ?_ | refine gblock_here ?_ | refine gblock_out rfl ?_)
    refine cl [4] (k := ?_)
    repeat refine gwp_seq ?_
    obtain rfl : k = c.ps.toNat := by omega
    refine gwp_region ?_
    refine v0 (k := ?_)
    refine v0 (k := ?_)
    refine nil0 ?_
    repeat refine gwp_seq ?_
    refine gwp_ret ?_
    repeat (first | refine gthen_ret ?_ | refine gblock_ret ?_ | refine gnoGoto_ret ?_)
    refine fin_ret ?_
    refine fp (hR := ?_)
    rfl
end Go.Proofs.Ytagdholenfkeaaa

/- The answers of the chain with its pairs turned, and of the one with other numbers. -/
namespace Go.Proofs.Ytagdholenfkeaaa
open Go.Gh
set_option maxRecDepth 100000
theorem whr_turn {c : Ch} (hv : c.valid = true) (x : Int) : whrA c.turn x = whrA c x := by
  rw [whrA, whrA, if_pos hv, if_pos (turn_valid hv), turn_least, turn_where]; rfl
section
variable {c : Ch} (hv : c.valid = true) {s : Nat → Nat} (R : Ren c.ps.toNat s)
include hv R
omit hv in
theorem acc_zero : accN s 0 c.ps.toNat = 0 := acc_eq R (Nat.two_pow_pos _) fun u hu => by rw [Nat.zero_testBit, Nat.zero_testBit]
theorem whr_ren (x : Int) : (whrA (c.ren s) x).2 = (whrA c x).2 ∧ accN s (whrA c x).1 c.ps.toNat = (whrA (c.ren s) x).1 := by
  rw [whrA, whrA, if_pos hv, if_pos (ren_valid hv R), least_ren hv R]
  by_cases hq : inQ x c.pl = true
  · rw [if_pos hq, if_pos (show inQ x (c.ren s).pl = true from hq)]
    by_cases hc : leastC c ≤ c.ms
    · rw [if_pos hc, if_pos (show leastC c ≤ (c.ren s).ms from hc)]
      exact ⟨rfl, acc_eq R (whereC_lt2 (c.ren s) x) fun u hu => where_ren hv R hu⟩
    · rw [if_neg hc, if_neg (show ¬ leastC c ≤ (c.ren s).ms from hc)]
      exact ⟨rfl, acc_zero R⟩
  · rw [if_neg hq, if_neg (show ¬ inQ x (c.ren s).pl = true from hq)]
    exact ⟨rfl, acc_zero R⟩
theorem han_ren (x : Int) : (hanA (c.ren s) x).2 = (hanA c x).2 ∧ accN s (hanA c x).1.1 c.ps.toNat = (hanA (c.ren s) x).1.1 ∧ accN s (hanA c x).1.2 c.ps.toNat = (hanA (c.ren s) x).1.2 := by
  rw [hanA, hanA, if_pos hv, if_pos (ren_valid hv R), least_ren hv R]
  by_cases hq : inQ x c.pl = true
  · rw [if_pos hq, if_pos (show inQ x (c.ren s).pl = true from hq)]
    by_cases hc : leastC c ≤ c.ms
    · rw [if_pos hc, if_pos (show leastC c ≤ (c.ren s).ms from hc)]
      refine ⟨rfl, acc_eq R (setN_lt2 _ _) fun u hu => ?_, acc_eq R (setN_lt2 _ _) fun u hu => ?_⟩
      · rw [setN_bit, setN_bit, decide_eq_true hu, decide_eq_true (show s u < (c.ren s).ps.toNat from R.lt u hu), sur_ren hv R hu]
      · rw [setN_bit, setN_bit, decide_eq_true hu, decide_eq_true (show s u < (c.ren s).ps.toNat from R.lt u hu), can_ren hv R hc hu]
    · rw [if_neg hc, if_neg (show ¬ leastC c ≤ (c.ren s).ms from hc)]
      exact ⟨rfl, acc_zero R, acc_zero R⟩
  · rw [if_neg hq, if_neg (show ¬ inQ x (c.ren s).pl = true from hq)]
    exact ⟨rfl, acc_zero R, acc_zero R⟩
theorem lst_ren : leastA (c.ren s) = leastA c := by
  rw [leastA, leastA, if_pos hv, if_pos (ren_valid hv R), least_ren hv R]
end
theorem whr_lt {c : Ch} (x : Int) : (whrA c x).1 < 256 := by
  unfold whrA
  split
  · have hv := ‹c.valid = true›
    split
    · split
      · exact whereC_lt hv x
      · decide
    · decide
  · decide
theorem han_lt {c : Ch} (x : Int) : (hanA c x).1.1 < 256 ∧ (hanA c x).1.2 < 256 := by
  unfold hanA
  split
  · have hv := ‹c.valid = true›
    have hn := valid_num hv
    split
    · split
      · exact ⟨setN_lt _ _ (by omega), setN_lt _ _ (by omega)⟩
      · decide
    · decide
  · decide
end Go.Proofs.Ytagdholenfkeaaa

/- The statement ChainTurned. -/
namespace Go.Proofs.Ytagdholenfkeaaa
open Go.Gh
set_option maxRecDepth 100000
set_option maxHeartbeats 4000000
structure kLt1 (c : Prop) : Prop where
  h : c := by (first | exact True.intro | omega | (simp only [inI]; omega) | (simp [P.size, pr, pk, all_int, allOne_p, goods_p, allOne, goods, good, G.one, P.one, P.cells] <;> first | omega | assumption | simp_all))
theorem nd_t {p : Prop} [Decidable p] (h : ¬ p) : (!decide p) = true := by rw [decide_eq_false h]; rfl
theorem nd_f {p : Prop} [Decidable p] (h : p) : (!decide p) = false := by rw [decide_eq_true h]; rfl
theorem eqI {a b : Int} (h : a = b) : a ≤ b ∧ b ≤ a := by omega
theorem eqN {a b : Nat} (h : a = b) : a ≤ b ∧ b ≤ a := by omega
theorem only_err {c : Ch} (hv : c.valid = true) {x : Int} (hx : inQ x c.pl = true) : (brkV (c.only x) x).2 = (brkV c x).2 := by
  rw [brkV_fb, brkV_fb]
  rcases only_brk hv hx with ⟨h1, h2⟩ | ⟨k, k2, r, h1, h2, _⟩
  · rw [if_pos h1, if_pos h2]
  · rw [if_neg (by omega), if_neg (by omega)]
theorem only_or {c : Ch} (hv : c.valid = true) {x : Int} (hx : inQ x c.pl = true) : ((brkV c x).2 ≤ 4 ∧ 4 ≤ (brkV c x).2) ∨
    ∃ (k k2 : Nat) (r : Rc), (brkV c x).1 = (k : Nat) ∧ (brkV (c.only x) x).1 = (k2 : Nat) ∧ (brkV c x).2 ≤ 0 ∧ 0 ≤ (brkV c x).2 ∧ c.rs[k]? = some r ∧ (c.rs.filter (isP x))[k2]? = some r ∧ pathA (c.only x) x (k2 : Nat) = pathA c x (k : Nat) := by
  have e1 := brkV_fb c x
  have e2 := brkV_fb (c.only x) x
  rcases only_brk hv hx with ⟨h1, h2⟩ | ⟨k, k2, r, h1, h2, h3, h4, h5⟩
  · rw [if_pos h1] at e1
    exact .inl (by rw [e1]; exact ⟨Int.le_refl _, Int.le_refl _⟩)
  · rw [if_neg (by omega)] at e1 e2
    exact .inr ⟨k, k2, r, by rw [e1]; exact h1, by rw [e2]; exact h2, by rw [e1]; exact Int.le_refl _, by rw [e1]; exact Int.le_refl _, h3, h4, h5⟩
theorem heg50 : Try.prog.eqGuardType Try.prog.depth 50 = false := by kernel_rfl
theorem heg52 : Try.prog.eqGuardType Try.prog.depth 52 = false := by kernel_rfl
theorem und52 : Try.prog.underlying 52 = some (.struct #[{ name := "Plate", type := 3, offset := 0, embedded := false, tag := "", pkgPath := "", byteOffset := 0 }, { name := "From", type := 3, offset := 1, embedded := false, tag := "", pkgPath := "", byteOffset := 8 }, { name := "To", type := 3, offset := 2, embedded := false, tag := "", pkgPath := "", byteOffset := 16 }]) := by kernel_rfl
theorem geq_rec (a b c d e f : Int) : geq Try.prog 6 52 (.agg [.int .i64 a, .int .i64 b, .int .i64 c]) (.agg [.int .i64 d, .int .i64 e, .int .i64 f]) = some (decide (a = d) && (decide (b = e) && (decide (c = f) && true))) := by
  unfold geq
  rw [und52]
  have hst : Try.prog.stoodInHeld 52 = false := by kernel_rfl
  simp only [hst, Bool.false_eq_true, if_false, List.map_cons, List.map_nil]
  have p0 : ∀ (u v z : Int), ppart Try.prog 3 [.int .i64 u, .int .i64 v, .int .i64 z] 0 = some (.int .i64 u) := fun u v z => by unfold ppart; rw [ti_3]; rfl
  have p1 : ∀ (u v z : Int), ppart Try.prog 3 [.int .i64 u, .int .i64 v, .int .i64 z] 1 = some (.int .i64 v) := fun u v z => by unfold ppart; rw [ti_3]; rfl
  have p2 : ∀ (u v z : Int), ppart Try.prog 3 [.int .i64 u, .int .i64 v, .int .i64 z] 2 = some (.int .i64 z) := fun u v z => by unfold ppart; rw [ti_3]; rfl
  rw [p0, p0, p1, p1, p2, p2]
  rw [if_neg (by decide), if_neg (by decide), if_neg (by decide)]
  simp only []
  rw [geq_int3, geq_int3, geq_int3]
  rfl
theorem ints_same (l : List Nat) (h : l.length ≤ 2000000) : PSpec Try.prog 23 [.list (intL l), .list (intL l)] (.ok (.bool true)) := by
  have h := s_Ints (l.map fun x : Nat => (x : Int)) (l.map fun x : Nat => (x : Int)) (by simpa using h) (by simpa using h)
  rw [List.map_map, decide_eq_true rfl] at h
  exact h
theorem pathA_le (c : Ch) (x w : Int) : (pathA c x w).1.length ≤ 2000000 := by
  unfold pathA
  split
  · split
    · split
      · split
        · have := (pathL_len (kn := c.kn) (f := D (eF c.kn (-1))) (P := c.ps.toNat) (dst := (‹Rc›).f.toNat) (D (eF c.kn (-1)) (holN x c.rs w.toNat).toNat (‹Rc›).f.toNat).toNat (holN x c.rs w.toNat).toNat).2
          simp only; omega
        · simp
      · simp
    · simp
  · simp
theorem ent12 : Enters Try.prog 12 := Enters.mk Try.func12 (by kernel_rfl) rfl
theorem l_turned (c : Ch) (x : Int) (b : Nat) (hb8 : b ≤ 255) : PSpec Try.prog 12 [.agg [.int .i64 c.pl, .int .i64 c.ps, .list (c.kn.map pk), .list (c.rs.map pr), .int .i64 c.ms], .int .i64 x, .int .u8 (b : Nat)] (.ok (.bool true)) := by
  refine pspec_of Try.func12 (rfl : Try.f12.body = some _) rfl ?_
  intro E A C hN hL
  replace hN : C.N = 421 := hN
  simp only [Gh.num, List.map_cons, List.map_nil, Nat.reduceAdd]
  have hdt : ∀ (i : Decidable True), @decide True i = true := fun i => decide_eq_true trivial
  have hdf : ∀ (i : Decidable False), @decide False i = false := fun i => decide_eq_false id
  have hbt : (true == true) = true := rfl
  have hbf : (false == false) = true := rfl
  have htf : (true == false) = false := rfl
  have hft : (false == true) = false := rfl
  have hpk : ∀ k : Kw, pk k = P.agg [.int .i64 k.a, .int .i64 k.b] := fun _ => rfl
  have hpr : ∀ r : Rc, pr r = P.agg [.int .i64 r.p, .int .i64 r.f, .int .i64 r.t] := fun _ => rfl
  have hgp : ∀ a b c e : Int, geq Try.prog 6 50 (.agg [.int .i64 a, .int .i64 b]) (.agg [.int .i64 c, .int .i64 e]) = some (decide (a = c) && (decide (b = e) && true)) := geq_pair 4
  have hgr := geq_rec
  repeat refine gwp_seq ?_
  refine gwp_region ?_
  refine n1 130 false (hc := kLt1.h {}) (k := ?_)
  refine n1 150 false (hc := kLt1.h {}) (k := ?_)
  refine v0 (k := ?_)
  refine nil0 ?_
  refine cl [1, 3, 5] (k := ?_)
  repeat refine gwp_seq ?_
  refine gwp_region ?_
  refine v0 (k := ?_)
  refine pc0 (spec := l_great c 12) (hent := ent13) (k := ?_)
  refine v0 (k := ?_)
  refine b0 (k1 := fun hb1 => ?_) (k0 := fun hb1 => ?_)
  · replace hb1 := hB.h {} hb1
    try rw [eqI] at hb1
    refine x0 (k := ?_)
    refine x0 (k := ?_)
    refine x0 (k := ?_)
    refine v0 (k := ?_)
    refine v0 (k := ?_)
    refine x0 (k := ?_)
    refine x0 (k := ?_)
    refine v0 (k := ?_)
    refine v0 (k := ?_)
    refine x0 (k := ?_)
    refine x0 (k := ?_)
    refine x0 (k := ?_)
    refine x0 (k := ?_)
    refine v0 (k := ?_)
    refine nil0 ?_
    repeat refine gwp_seq ?_
    refine cT (k := ?_)
    repeat refine gwp_seq ?_
    refine gwp_region ?_
    refine pc0 (spec := l_alive) (hent := ent14) (k := ?_)
    refine v0 (k := ?_)
    refine nil0 ?_
    repeat refine gwp_seq ?_
    refine gwp_ret ?_
    repeat (first | refine gthen_ret ?_ | refine gblock_ret ?_ | refine gnoGoto_ret ?_)
    refine fin_ret ?_
    refine fp (hR := ?_)
    rfl
  · replace hb1 := hB.h {} hb1
    try rw [eqI] at hb1
    obtain ⟨hk6, hr6⟩ := great_len (by assumption)
    refine w0 (k := ?_)
    refine pcw (spec := r_chain c (by omega) (by omega)) (hent := ent35) (k := ?_)
    refine w0 (k := ?_)
    refine v0 (k := ?_)
    refine v0 (k := ?_)
    refine b0 (k1 := fun hb2 => ?_) (k0 := fun hb2 => ?_)
    · replace hb2 := hB.h {} hb2
      try rw [eqI] at hb2
      refine x0 (k := ?_)
      refine x0 (k := ?_)
      refine v0 (k := ?_)
      refine v0 (k := ?_)
      refine x0 (k := ?_)
      refine x0 (k := ?_)
      refine x0 (k := ?_)
      refine x0 (k := ?_)
      refine v0 (k := ?_)
      refine nil0 ?_
      repeat refine gwp_seq ?_
      refine cT (k := ?_)
      repeat refine gwp_seq ?_
      refine gwp_region ?_
      refine pc0 (spec := l_alive) (hent := ent14) (k := ?_)
      refine v0 (k := ?_)
      refine nil0 ?_
      repeat refine gwp_seq ?_
      refine gwp_ret ?_
      repeat (first | refine gthen_ret ?_ | refine gblock_ret ?_ | refine gnoGoto_ret ?_)
      refine fin_ret ?_
      refine fp (hR := ?_)
      rfl
    · replace hb2 := hB.h {} hb2
      try rw [eqI] at hb2
      refine w0 (k := ?_)
      refine w0 (k := ?_)
      refine v0 (k := ?_)
      refine v0 (k := ?_)
      refine b0 (k1 := fun hb3 => ?_) (k0 := fun hb3 => ?_)
      · replace hb3 := hB.h {} hb3
        try rw [eqI] at hb3
        refine x0 (k := ?_)
        refine x0 (k := ?_)
        refine x0 (k := ?_)
        refine x0 (k := ?_)
        refine v0 (k := ?_)
        refine nil0 ?_
        repeat refine gwp_seq ?_
        refine cT (k := ?_)
        repeat refine gwp_seq ?_
        refine gwp_region ?_
        refine pc0 (spec := l_alive) (hent := ent14) (k := ?_)
        refine v0 (k := ?_)
        refine nil0 ?_
        repeat refine gwp_seq ?_
        refine gwp_ret ?_
        repeat (first | refine gthen_ret ?_ | refine gblock_ret ?_ | refine gnoGoto_ret ?_)
        refine fin_ret ?_
        refine fp (hR := ?_)
        rfl
      · replace hb3 := hB.h {} hb3
        try rw [eqI] at hb3
        refine w0 (k := ?_)
        refine w0 (k := ?_)
        refine w0 (k := ?_)
        refine w0 (k := ?_)
        refine v0 (k := ?_)
        refine nil0 ?_
        repeat refine gwp_seq ?_
        refine cB (k1 := fun hb4 => ?_) (k0 := fun hb4 => ?_)
        · replace hb4 := hB.h {} hb4
          try rw [eqI] at hb4
          repeat refine gwp_seq ?_
          refine gwp_region ?_
          refine pc0 (spec := l_alive) (hent := ent14) (k := ?_)
          refine v0 (k := ?_)
          refine nil0 ?_
          repeat refine gwp_seq ?_
          refine gwp_ret ?_
          repeat (first | refine gthen_ret ?_ | refine gblock_ret ?_ | refine gnoGoto_ret ?_)
          refine fin_ret ?_
          refine fp (hR := ?_)
          rfl
        · replace hb4 := hB.h {} hb4
          try rw [eqI] at hb4
          repeat refine gwp_seq ?_
          refine gwp_skip ?_
          refine cl [1, 3, 5] (k := ?_)
          repeat refine gwp_seq ?_
          have hv : c.valid = true := by assumption
          obtain ⟨p, rfl⟩ : ∃ p : Nat, x = p := ⟨x.toNat, by omega⟩
          have hn := valid_num hv
          have hpl : (p : Int) < c.pl := by omega
          refine fz 130 5 [.k, .k, .k, .k, .k] (k := ?_)
          refine fz 150 1 [.k] (k := ?_)
          refine cv 3 (.n [.k, .k, .k, .k, .k]) (k := ?_)
          refine cv 5 (.n [.k]) (k := ?_)
          refine gwp_region ?_
          refine v0 (k := ?_)
          refine n1 170 false (hc := kLt1.h {}) (k := ?_)
          refine s1 (hc := kLt1.h {}) (k := ?_)
          refine nil0 ?_
          refine cl [1, 3, 7] (k := ?_)
          repeat refine gwp_seq ?_
          refine fz 170 1 [.k] (k := ?_)
          refine cv 7 (.n [.k]) (k := ?_)
          refine gwp_region ?_
          refine v0 (k := ?_)
          refine v0 (k := ?_)
          refine nil0 ?_
          refine cl [1, 3, 7, 8] (k := ?_)
          repeat refine gwp_seq ?_
          refine rd ?_
          refine d0 0 (k := ?_)
          refine d0 1 (k := ?_)
          refine d0 2 (k := ?_)
          refine dn1 3 190 false (hc := kLt1.h {}) (k := ?_)
          refine dn1 4 200 false (hc := kLt1.h {}) (k := ?_)
          refine dn1 5 210 false (hc := kLt1.h {}) (k := ?_)
          refine ds1 6 (hc := kLt1.h {}) (k := ?_)
          refine ds1 7 (hc := kLt1.h {}) (k := ?_)
          refine ds1 8 (hc := kLt1.h {}) (k := ?_)
          refine dz 9 [0, 0, 0, 0, 0, 0, 57, 123, 255] (h := ?_)
          refine de 9 (h := ?_)
          refine cl [1, 3, 7, 8, 9, 10, 11] (k := ?_)
          repeat refine gwp_seq ?_
          refine gwp_region ?_
          refine v0 (k := ?_)
          refine s1 (hc := kLt1.h {}) (k := ?_)
          refine v0 (k := ?_)
          refine s1 (hc := kLt1.h {}) (k := ?_)
          refine v0 (k := ?_)
          refine s1 (hc := kLt1.h {}) (k := ?_)
          refine v0 (k := ?_)
          refine s1 (hc := kLt1.h {}) (k := ?_)
          refine nil0 ?_
          refine cl [1, 3, 7, 8, 9, 10, 11] (k := ?_)
          repeat refine gwp_seq ?_
          refine ad 190 2 3000 50 2 true (k := ?_)
          refine ad 200 2 3010 50 2 true (k := ?_)
          refine ad 200 3 3020 52 3 true (k := ?_)
          refine ad 210 3 3030 52 3 true (k := ?_)
          refine gwp_region ?_
          refine v0 (k := ?_)
          refine v0 (k := ?_)
          refine v0 (k := ?_)
          refine v0 (k := ?_)
          refine nil0 ?_
          refine cl [1, 3, 7, 8, 9, 10, 11, 82, 83] (k := ?_)
          repeat refine gwp_seq ?_
          refine gwp_block ?_
          repeat refine gwp_seq ?_
          refine gc_loop (fun mz σ => ∃ k : Nat, (k ≤ c.kn.length) ∧ mz = c.kn.length - k ∧ σ = (sg [(1, .p (.int .i64 (p : Nat))), (3, .ptr [.p (.int .i64 c.pl), .p (.int .i64 c.ps), .p (.list (c.kn.map pk)), .p (.list (c.rs.map pr)), .p (.int .i64 c.ms)]), (7, .ptr [.fn (.func 39) [] [.ptr [.p (.int .u8 (b : Nat))], .ptr [.p (.int .i64 c.pl), .p (.int .i64 c.ps), .p (.list (c.kn.map pk)), .p (.list (c.rs.map pr)), .p (.int .i64 c.ms)]]]), (8, .fn (.func 40) [] [.ptr [.p (.int .i64 c.pl), .p (.int .i64 c.ps), .p (.list (c.kn.map pk)), .p (.list (c.rs.map pr)), .p (.int .i64 c.ms)], .ptr [.fn (.func 39) [] [.ptr [.p (.int .u8 (b : Nat))], .ptr [.p (.int .i64 c.pl), .p (.int .i64 c.ps), .p (.list (c.kn.map pk)), .p (.list (c.rs.map pr)), .p (.int .i64 c.ms)]]]]), (9, .ref 190 0), (10, .ref 200 0), (11, .ref 210 0), (82, .p (.int .i64 (c.kn.length : Nat))), (83, .p (.int .i64 (k : Nat)))] [(190, .cells [.p (.int .i64 c.pl), .p (.int .i64 c.ps), .own 3000 k, .p (.list (c.rs.map pr)), .p (.int .i64 c.ms)] 0), (200, .cells [.p (.int .i64 c.pl), .p (.int .i64 c.ps), .own 3010 k, .own 3020 0, .p (.int .i64 c.ms)] 0), (210, .cells [.p (.int .i64 c.pl), .p (.int .i64 c.ps), .p (.list (c.kn.map pk)), .own 3030 0, .p (.int .i64 c.ms)] 0), (3000, .arr 50 2 ((turnK c.kn k).map pk) true), (3010, .arr 50 2 (((c.kn.take k).map (Kw.ren (rn c.ps.toNat b))).map pk) true), (3020, .arr 52 3 (([] : List P)) true), (3030, .arr 52 3 (([] : List P)) true)] A [] : Sg E)) ?_ (fun mz σ hI => ?_)
          · refine lbeg [1, 3, 7, 8, 9, 10, 11, 82, 83] (hV := ?_)
            exact ⟨_, 0, by omega, rfl, rfl⟩
          obtain ⟨k, hk, hnn, rfl⟩ := hI
          repeat refine gwp_seq ?_
          refine gwp_region ?_
          refine v0 (k := ?_)
          refine nil0 ?_
          repeat refine gwp_seq ?_
          refine cB (k1 := fun hb5 => ?_) (k0 := fun hb5 => ?_)
          · replace hb5 := hB.h {} hb5
            try rw [eqI] at hb5
            repeat refine gwp_seq ?_
            refine gwp_skip ?_
            refine cl [1, 3, 7, 8, 9, 10, 11, 82, 83] (k := ?_)
            repeat refine gwp_seq ?_
            refine gwp_block ?_
            repeat refine gwp_seq ?_
            refine gwp_region ?_
            refine v0 (k := ?_)
            refine v0 (k := ?_)
            refine nil0 ?_
            refine cl [1, 3, 7, 8, 9, 10, 11, 12, 82, 83] (k := ?_)
            repeat refine gwp_seq ?_
            obtain ⟨z1, hz1⟩ := getE (l := c.kn) (k := c.kn.length - 1 - k) (by omega)
            obtain ⟨ya, yb⟩ := z1
            have hz1b : c.kn[((c.kn.length : Int) - 1 - (k : Nat)).toNat]? = some ⟨ya, yb⟩ := by rw [show ((c.kn.length : Int) - 1 - (k : Nat)).toNat = c.kn.length - 1 - k by omega]; exact hz1
            obtain ⟨z, hz⟩ := getE (l := c.kn) (k := k) (by omega)
            have hkb := valid_kn hv (List.mem_of_getElem? hz)
            obtain ⟨za, zb⟩ := z
            simp only at hkb
            obtain ⟨za, rfl⟩ : ∃ n : Nat, za = n := ⟨za.toNat, by omega⟩
            obtain ⟨zb, rfl⟩ : ∃ n : Nat, zb = n := ⟨zb.toNat, by omega⟩
            have htl := turn_len c.kn k
            have hkl : (c.kn.take k).length = k := by rw [List.length_take]; omega
            refine rd ?_
            refine d0 0 (k := ?_)
            refine d0 1 (k := ?_)
            refine d0 2 (k := ?_)
            refine d0 3 (k := ?_)
            refine d0 4 (k := ?_)
            refine d1 5 (hc := kLt1.h {}) (k := ?_)
            refine d0 6 (k := ?_)
            refine d1 7 (hc := kLt1.h {}) (k := ?_)
            refine d1 8 (hc := kLt1.h {}) (k := ?_)
            refine d0 9 (k := ?_)
            refine d0 10 (k := ?_)
            refine d0 11 (k := ?_)
            refine d0 12 (k := ?_)
            refine d1 13 (hc := kLt1.h {}) (k := ?_)
            refine d0 14 (k := ?_)
            refine dn1 15 230 false (hc := kLt1.h {}) (k := ?_)
            refine dn1 16 240 false (hc := kLt1.h {}) (k := ?_)
            refine ds1 17 (hc := kLt1.h {}) (k := ?_)
            refine ds1 18 (hc := kLt1.h {}) (k := ?_)
            refine dz 19 [0, 1, 0, 4, 12, 28, 0, 124, 255, 511, 0, 1024, 0, 7168, 15360, 0, 0, 99327, 262143] (h := ?_)
            refine de 19 (h := ?_)
            refine cl [1, 3, 7, 8, 9, 10, 11, 13, 14, 82, 83] (k := ?_)
            repeat refine gwp_seq ?_
            refine rd ?_
            refine d0 0 (k := ?_)
            refine d0 1 (k := ?_)
            refine d1 2 (hc := kLt1.h {}) (k := ?_)
            refine d0 3 (k := ?_)
            refine d1 4 (hc := kLt1.h {}) (k := ?_)
            refine d0 5 (k := ?_)
            refine d0 6 (k := ?_)
            refine dn1 7 1180 false (hc := kLt1.h {}) (k := ?_)
            refine dn1 8 1190 false (hc := kLt1.h {}) (k := ?_)
            refine d0 9 (k := ?_)
            refine d0 10 (k := ?_)
            refine d0 11 (k := ?_)
            refine d1 12 (hc := kLt1.h {}) (k := ?_)
            refine d0 13 (k := ?_)
            refine doc0 14 [] [] [0, 0, 0] none (spec := q_39 c hv b za hb8 (by omega)) (hent := ent39) (k := ?_)
            refine d0 15 (k := ?_)
            refine d1 16 (hc := kLt1.h {}) (k := ?_)
            refine d0 17 (k := ?_)
            refine doc0 18 [] [] [0, 0, 0] none (spec := q_39 c hv b zb hb8 (by omega)) (hent := ent39) (k := ?_)
            refine d0 19 (k := ?_)
            refine dn1 20 1310 false (hc := kLt1.h {}) (k := ?_)
            refine dn1 21 1320 false (hc := kLt1.h {}) (k := ?_)
            refine d0 22 (k := ?_)
            refine ds1 23 (hc := kLt1.h {}) (k := ?_)
            refine d0 24 (k := ?_)
            refine ds1 25 (hc := kLt1.h {}) (k := ?_)
            refine dz 26 [0, 1, 0, 4, 0, 16, 60, 124, 255, 0, 512, 0, 0, 4096, 14847, 0, 0, 65536, 260607, 522751, 1047039, 2097151, 511, 8388607, 16777215, 33554431] (h := ?_)
            refine de 26 (h := ?_)
            refine cl [1, 3, 7, 8, 9, 10, 11, 82, 83] (k := ?_)
            repeat refine gwp_seq ?_
            refine gwp_region ?_
            refine v1 (hc := kLt1.h {}) (k := ?_)
            refine v0 (k := ?_)
            refine nil0 ?_
            refine lend [1, 3, 7, 8, 9, 10, 11, 82, 83] (h := ?_) (hV := ?_) (n' := c.kn.length - (k + 1))
            · omega
            exact ⟨k + 1, by omega, rfl, sgE rfl (by rw [turn_next hz1, take_snoc hz, List.map_append, List.map_append, List.map_append]; rfl)⟩
          · replace hb5 := hB.h {} hb5
            try rw [eqI] at hb5
            repeat refine gwp_seq ?_
            refine gwp_exit ?_
            repeat (first | refine gthen_exit ?_ | refine gnoGoto_exit ?_ | refine gblock_here ?_ | refine gblock_out rfl ?_)
            refine cl [1, 3, 7, 8, 9, 10, 11] (k := ?_)
            repeat refine gwp_seq ?_
            obtain rfl : k = c.kn.length := by omega
            rw [List.take_length]
            refine gwp_region ?_
            refine v0 (k := ?_)
            refine v0 (k := ?_)
            refine v0 (k := ?_)
            refine v0 (k := ?_)
            refine nil0 ?_
            refine cl [1, 3, 7, 8, 9, 10, 11, 127, 128, 129] (k := ?_)
            repeat refine gwp_seq ?_
            refine gwp_block ?_
            repeat refine gwp_seq ?_
            refine gc_loop (fun mz σ => ∃ k : Nat, (k ≤ c.rs.length) ∧ mz = c.rs.length - k ∧ σ = (sg [(1, .p (.int .i64 (p : Nat))), (3, .ptr [.p (.int .i64 c.pl), .p (.int .i64 c.ps), .p (.list (c.kn.map pk)), .p (.list (c.rs.map pr)), .p (.int .i64 c.ms)]), (7, .ptr [.fn (.func 39) [] [.ptr [.p (.int .u8 (b : Nat))], .ptr [.p (.int .i64 c.pl), .p (.int .i64 c.ps), .p (.list (c.kn.map pk)), .p (.list (c.rs.map pr)), .p (.int .i64 c.ms)]]]), (8, .fn (.func 40) [] [.ptr [.p (.int .i64 c.pl), .p (.int .i64 c.ps), .p (.list (c.kn.map pk)), .p (.list (c.rs.map pr)), .p (.int .i64 c.ms)], .ptr [.fn (.func 39) [] [.ptr [.p (.int .u8 (b : Nat))], .ptr [.p (.int .i64 c.pl), .p (.int .i64 c.ps), .p (.list (c.kn.map pk)), .p (.list (c.rs.map pr)), .p (.int .i64 c.ms)]]]]), (9, .ref 190 0), (10, .ref 200 0), (11, .ref 210 0), (127, .p (.list (c.rs.map pr))), (128, .p (.int .i64 (c.rs.length : Nat))), (129, .p (.int .i64 (k : Nat)))] [(190, .cells [.p (.int .i64 c.pl), .p (.int .i64 c.ps), .own 3000 c.kn.length, .p (.list (c.rs.map pr)), .p (.int .i64 c.ms)] 0), (200, .cells [.p (.int .i64 c.pl), .p (.int .i64 c.ps), .own 3010 c.kn.length, .own 3020 k, .p (.int .i64 c.ms)] 0), (210, .cells [.p (.int .i64 c.pl), .p (.int .i64 c.ps), .p (.list (c.kn.map pk)), .own 3030 (posN (p : Nat) c.rs k), .p (.int .i64 c.ms)] 0), (3000, .arr 50 2 ((turnK c.kn c.kn.length).map pk) true), (3010, .arr 50 2 ((c.kn.map (Kw.ren (rn c.ps.toNat b))).map pk) true), (3020, .arr 52 3 (((c.rs.take k).map (Rc.ren (rn c.ps.toNat b))).map pr) true), (3030, .arr 52 3 (((c.rs.take k).filter (isP (p : Nat))).map pr) true)] A [] : Sg E)) ?_ (fun mz σ hI => ?_)
            · refine lbeg [1, 3, 7, 8, 9, 10, 11, 127, 128, 129] (hV := ?_)
              exact ⟨_, 0, by omega, rfl, rfl⟩
            obtain ⟨k, hk, hnn, rfl⟩ := hI
            repeat refine gwp_seq ?_
            refine gwp_region ?_
            refine v0 (k := ?_)
            refine nil0 ?_
            repeat refine gwp_seq ?_
            refine cB (k1 := fun hb6 => ?_) (k0 := fun hb6 => ?_)
            · replace hb6 := hB.h {} hb6
              try rw [eqI] at hb6
              repeat refine gwp_seq ?_
              refine gwp_skip ?_
              refine cl [1, 3, 7, 8, 9, 10, 11, 127, 128, 129] (k := ?_)
              repeat refine gwp_seq ?_
              refine gwp_block ?_
              repeat refine gwp_seq ?_
              obtain ⟨r, hr⟩ := getE (l := c.rs) (k := k) (by omega)
              have hri := valid_rs hv (List.mem_of_getElem? hr)
              obtain ⟨rp, a, t⟩ := r
              simp only at hri
              obtain ⟨a, rfl⟩ : ∃ n : Nat, a = n := ⟨a.toNat, by omega⟩
              obtain ⟨t, rfl⟩ : ∃ n : Nat, t = n := ⟨t.toNat, by omega⟩
              have hrl : (c.rs.take k).length = k := by rw [List.length_take]; omega
              have hpo : (List.filter (isP (p : Nat)) (List.take k c.rs)).length = posN (p : Nat) c.rs k := rfl
              have hpm := Nat.le_trans (Nat.le_of_eq hpo.symm) (Nat.le_trans (List.length_filter_le (isP (p : Nat)) (List.take k c.rs)) (Nat.le_of_eq hrl))
              refine gwp_region ?_
              refine v1 (hc := kLt1.h {}) (k := ?_)
              refine v0 (k := ?_)
              refine n1 260 false (hc := kLt1.h {}) (k := ?_)
              refine s1 (hc := kLt1.h {}) (k := ?_)
              refine nil0 ?_
              refine cl [1, 3, 7, 8, 9, 10, 11, 16, 127, 128, 129] (k := ?_)
              repeat refine gwp_seq ?_
              refine rd ?_
              refine d0 0 (k := ?_)
              refine d0 1 (k := ?_)
              refine d0 2 (k := ?_)
              refine d0 3 (k := ?_)
              refine d0 4 (k := ?_)
              refine d0 5 (k := ?_)
              refine d0 6 (k := ?_)
              refine doc0 7 [] [] [0, 0, 0] none (spec := q_39 c hv b a hb8 (by omega)) (hent := ent39) (k := ?_)
              refine d0 8 (k := ?_)
              refine d0 9 (k := ?_)
              refine d0 10 (k := ?_)
              refine doc0 11 [] [] [0, 0, 0] none (spec := q_39 c hv b t hb8 (by omega)) (hent := ent39) (k := ?_)
              refine d0 12 (k := ?_)
              refine dn1 13 1560 false (hc := kLt1.h {}) (k := ?_)
              refine dn1 14 1570 false (hc := kLt1.h {}) (k := ?_)
              refine d0 15 (k := ?_)
              refine ds1 16 (hc := kLt1.h {}) (k := ?_)
              refine dz 17 [0, 1, 0, 4, 0, 0, 32, 112, 0, 0, 512, 2032, 4092, 8188, 16383, 32767, 65535] (h := ?_)
              refine de 17 (h := ?_)
              refine cl [1, 3, 7, 8, 9, 10, 11, 16, 127, 128, 129] (k := ?_)
              repeat refine gwp_seq ?_
              refine gwp_region ?_
              refine v0 (k := ?_)
              refine v0 (k := ?_)
              refine v0 (k := ?_)
              refine v0 (k := ?_)
              refine nil0 ?_
              repeat refine gwp_seq ?_
              refine cB (k1 := fun hb7 => ?_) (k0 := fun hb7 => ?_)
              · replace hb7 := hB.h {} hb7
                try rw [eqI] at hb7
                obtain rfl : rp = ((p : Nat) : Int) := by omega
                repeat refine gwp_seq ?_
                refine gwp_region ?_
                refine v0 (k := ?_)
                refine v0 (k := ?_)
                refine v0 (k := ?_)
                refine n1 1660 false (hc := kLt1.h {}) (k := ?_)
                refine n1 1670 false (hc := kLt1.h {}) (k := ?_)
                refine v0 (k := ?_)
                refine s1 (hc := kLt1.h {}) (k := ?_)
                refine nil0 ?_
                refine cl [1, 3, 7, 8, 9, 10, 11, 127, 128, 129] (k := ?_)
                repeat refine gwp_seq ?_
                refine gwp_region ?_
                refine v1 (hc := kLt1.h {}) (k := ?_)
                refine v0 (k := ?_)
                refine nil0 ?_
                refine lend [1, 3, 7, 8, 9, 10, 11, 127, 128, 129] (h := ?_) (hV := ?_) (n' := c.rs.length - (k + 1))
                · omega
                first
                | exact ⟨k + 1, by omega, rfl, sgE rfl (by rw [pos_next (x := (p : Nat)) hr rfl, filt_next (q := isP (p : Nat)) hr (decide_eq_true rfl), take_snoc hr, List.map_append, List.map_append, List.map_append]; rfl)⟩
                | exact ⟨k + 1, by omega, rfl, sgE rfl (by rw [pos_skip (x := (p : Nat)) hr (by simp only; omega), filt_skip (q := isP (p : Nat)) hr (decide_eq_false (by simp only; omega)), take_snoc hr, List.map_append, List.map_append]; rfl)⟩
              · replace hb7 := hB.h {} hb7
                try rw [eqI] at hb7
                repeat refine gwp_seq ?_
                refine gwp_skip ?_
                refine cl [1, 3, 7, 8, 9, 10, 11, 127, 128, 129] (k := ?_)
                repeat refine gwp_seq ?_
                refine gwp_region ?_
                refine v1 (hc := kLt1.h {}) (k := ?_)
                refine v0 (k := ?_)
                refine nil0 ?_
                refine lend [1, 3, 7, 8, 9, 10, 11, 127, 128, 129] (h := ?_) (hV := ?_) (n' := c.rs.length - (k + 1))
                · omega
                first
                | exact ⟨k + 1, by omega, rfl, sgE rfl (by rw [pos_next (x := (p : Nat)) hr rfl, filt_next (q := isP (p : Nat)) hr (decide_eq_true rfl), take_snoc hr, List.map_append, List.map_append, List.map_append]; rfl)⟩
                | exact ⟨k + 1, by omega, rfl, sgE rfl (by rw [pos_skip (x := (p : Nat)) hr (by simp only; omega), filt_skip (q := isP (p : Nat)) hr (decide_eq_false (by simp only; omega)), take_snoc hr, List.map_append, List.map_append]; rfl)⟩
            · replace hb6 := hB.h {} hb6
              try rw [eqI] at hb6
              repeat refine gwp_seq ?_
              refine gwp_exit ?_
              repeat (first | refine gthen_exit ?_ | refine gnoGoto_exit ?_ | refine gblock_here ?_ | refine gblock_out rfl ?_)
              refine cl [1, 3, 8, 9, 10, 11] (k := ?_)
              repeat refine gwp_seq ?_
              obtain rfl : k = c.rs.length := by omega
              rw [pos_all, List.take_length]
              have R := rn_ren (P := c.ps.toNat) (b := b) (by omega)
              have hvr := ren_valid hv R
              have hvo := only_valid hv (p : Nat)
              have htl := turn_len c.kn c.kn.length
              have hfl := List.length_filter_le (isP (p : Nat)) c.rs
              have ht1 : c.turn.kn.length ≤ 1048576 := by show (turnK c.kn c.kn.length).length ≤ 1048576; omega
              have ht2 : c.turn.rs.length ≤ 1048576 := by show c.rs.length ≤ 1048576; omega
              have hr1 : (c.ren (rn c.ps.toNat b)).kn.length ≤ 1048576 := by show (c.kn.map _).length ≤ 1048576; rw [List.length_map]; omega
              have hr2 : (c.ren (rn c.ps.toNat b)).rs.length ≤ 1048576 := by show (c.rs.map _).length ≤ 1048576; rw [List.length_map]; omega
              have ho1 : (c.only (p : Nat)).kn.length ≤ 1048576 := by show c.kn.length ≤ 1048576; omega
              have ho2 : (c.only (p : Nat)).rs.length ≤ 1048576 := by show (c.rs.filter _).length ≤ 1048576; omega
              refine rd ?_
              refine dn1 0 1700 false (hc := kLt1.h {}) (k := ?_)
              refine d0 1 (k := ?_)
              refine d0 2 (k := ?_)
              refine dn1 3 1730 false (hc := kLt1.h {}) (k := ?_)
              refine dn1 4 1740 false (hc := kLt1.h {}) (k := ?_)
              refine d0 5 (k := ?_)
              refine d0 6 (k := ?_)
              refine dn1 7 1770 false (hc := kLt1.h {}) (k := ?_)
              refine d0 8 (k := ?_)
              refine d0 9 (k := ?_)
              refine dz 10 [0, 0, 2, 7, 0, 0, 32, 127, 255, 511] (h := ?_)
              refine de 10 (h := ?_)
              refine cl [1, 3, 8, 9, 10, 11, 17, 18] (k := ?_)
              repeat refine gwp_seq ?_
              refine gwp_region ?_
              refine v0 (k := ?_)
              refine v0 (k := ?_)
              refine pc0 (spec := c_where c (by omega) (by omega) (p : Nat)) (hent := ent24) (k := ?_)
              refine v0 (k := ?_)
              refine v0 (k := ?_)
              refine v0 (k := ?_)
              refine v0 (k := ?_)
              refine v0 (k := ?_)
              refine nil0 ?_
              refine cl [1, 3, 8, 9, 10, 11, 17, 18, 19, 20] (k := ?_)
              repeat refine gwp_seq ?_
              refine gwp_region ?_
              refine v1 (hc := by (simp [turn_len])) (k := ?_)
              refine v0 (k := ?_)
              refine pc0 (spec := c_where c.turn ht1 ht2 (p : Nat)) (hc := by simp [turn_len]) (hent := ent24) (k := ?_)
              refine v0 (k := ?_)
              refine v0 (k := ?_)
              refine v0 (k := ?_)
              refine v0 (k := ?_)
              refine v0 (k := ?_)
              refine nil0 ?_
              refine cl [1, 3, 8, 10, 11, 17, 18, 19, 20, 21, 22] (k := ?_)
              repeat refine gwp_seq ?_
              refine gwp_region ?_
              refine v0 (k := ?_)
              refine v0 (k := ?_)
              refine pc0 (spec := c_where (c.ren (rn c.ps.toNat b)) hr1 hr2 (p : Nat)) (hent := ent24) (k := ?_)
              refine v0 (k := ?_)
              refine v0 (k := ?_)
              refine v0 (k := ?_)
              refine v0 (k := ?_)
              refine v0 (k := ?_)
              refine nil0 ?_
              refine cl [1, 3, 8, 10, 11, 17, 18, 19, 20, 21, 22, 23, 24] (k := ?_)
              repeat refine gwp_seq ?_
              refine gwp_region ?_
              refine v0 (k := ?_)
              refine v0 (k := ?_)
              refine pc0 (spec := c_hands c (by omega) (by omega) (p : Nat)) (hent := ent26) (k := ?_)
              refine v0 (k := ?_)
              refine v0 (k := ?_)
              refine v0 (k := ?_)
              refine v0 (k := ?_)
              refine v0 (k := ?_)
              refine v0 (k := ?_)
              refine v0 (k := ?_)
              refine nil0 ?_
              refine cl [1, 3, 8, 10, 11, 17, 18, 19, 20, 21, 22, 23, 24, 25, 26, 27] (k := ?_)
              repeat refine gwp_seq ?_
              refine gwp_region ?_
              refine v0 (k := ?_)
              refine v0 (k := ?_)
              refine pc0 (spec := c_hands (c.ren (rn c.ps.toNat b)) hr1 hr2 (p : Nat)) (hent := ent26) (k := ?_)
              refine v0 (k := ?_)
              refine v0 (k := ?_)
              refine v0 (k := ?_)
              refine v0 (k := ?_)
              refine v0 (k := ?_)
              refine v0 (k := ?_)
              refine v0 (k := ?_)
              refine nil0 ?_
              refine cl [1, 3, 8, 10, 11, 17, 18, 19, 20, 21, 22, 23, 24, 25, 26, 27, 28, 29, 30] (k := ?_)
              repeat refine gwp_seq ?_
              refine gwp_region ?_
              refine v0 (k := ?_)
              refine pc0 (spec := c_least c (by omega) (by omega)) (hent := ent21) (k := ?_)
              refine v0 (k := ?_)
              refine v0 (k := ?_)
              refine v0 (k := ?_)
              refine v0 (k := ?_)
              refine v0 (k := ?_)
              refine nil0 ?_
              refine cl [1, 3, 8, 10, 11, 17, 18, 19, 20, 21, 22, 23, 24, 25, 26, 27, 28, 29, 30, 31, 32] (k := ?_)
              repeat refine gwp_seq ?_
              refine gwp_region ?_
              refine v0 (k := ?_)
              refine pc0 (spec := c_least (c.ren (rn c.ps.toNat b)) hr1 hr2) (hent := ent21) (k := ?_)
              refine v0 (k := ?_)
              refine v0 (k := ?_)
              refine v0 (k := ?_)
              refine v0 (k := ?_)
              refine v0 (k := ?_)
              refine nil0 ?_
              refine cl [1, 3, 8, 10, 11, 17, 18, 19, 20, 21, 22, 23, 24, 25, 26, 27, 28, 29, 30, 31, 32, 33, 34] (k := ?_)
              repeat refine gwp_seq ?_
              refine gwp_region ?_
              refine v0 (k := ?_)
              refine v0 (k := ?_)
              refine pc0 (spec := w_break c hv p hpl) (hent := ent17) (k := ?_)
              refine v0 (k := ?_)
              refine v0 (k := ?_)
              refine v0 (k := ?_)
              refine v0 (k := ?_)
              refine v0 (k := ?_)
              refine nil0 ?_
              refine cl [1, 3, 8, 10, 11, 17, 18, 19, 20, 21, 22, 23, 24, 25, 26, 27, 28, 29, 30, 31, 32, 33, 34, 35, 36] (k := ?_)
              repeat refine gwp_seq ?_
              refine gwp_region ?_
              refine v0 (k := ?_)
              refine v0 (k := ?_)
              refine pc0 (spec := w_break (c.ren (rn c.ps.toNat b)) hvr p hpl) (hent := ent17) (k := ?_)
              refine v0 (k := ?_)
              refine v0 (k := ?_)
              refine v0 (k := ?_)
              refine v0 (k := ?_)
              refine v0 (k := ?_)
              refine nil0 ?_
              refine cl [1, 3, 8, 11, 17, 18, 19, 20, 21, 22, 23, 24, 25, 26, 27, 28, 29, 30, 31, 32, 33, 34, 35, 36, 37, 38] (k := ?_)
              repeat refine gwp_seq ?_
              refine gwp_region ?_
              refine v0 (k := ?_)
              refine v0 (k := ?_)
              refine pc0 (spec := w_break (c.only (p : Nat)) hvo p hpl) (hent := ent17) (k := ?_)
              refine v0 (k := ?_)
              refine v0 (k := ?_)
              refine v0 (k := ?_)
              refine v0 (k := ?_)
              refine v0 (k := ?_)
              refine nil0 ?_
              refine cl [1, 3, 8, 11, 17, 18, 19, 20, 21, 22, 23, 24, 25, 26, 27, 28, 29, 30, 31, 32, 33, 34, 35, 36, 37, 38, 39, 40] (k := ?_)
              repeat refine gwp_seq ?_
              have g1 := eqN (congrArg Prod.fst (whr_turn hv (p : Nat)))
              have g2 := eqI (congrArg Prod.snd (whr_turn hv (p : Nat)))
              have g3 := eqI (whr_ren hv R (p : Nat)).1
              have g4 := eqN (whr_ren hv R (p : Nat)).2
              have g5 := eqI (han_ren hv R (p : Nat)).1
              have g6 := eqN (han_ren hv R (p : Nat)).2.1
              have g7 := eqN (han_ren hv R (p : Nat)).2.2
              have g8 := eqI (congrArg Prod.fst (lst_ren hv R))
              have g9 := eqI (congrArg Prod.snd (lst_ren hv R))
              have g10 := eqI (congrArg Prod.fst (brk_ren hv R (p : Nat)))
              have g11 := eqI (congrArg Prod.snd (brk_ren hv R (p : Nat)))
              have hpq : inQ (p : Nat) c.pl = true := by simp only [inQ]; rw [decide_eq_true (by omega), decide_eq_true (by omega)]; rfl
              have g12 := eqI (only_err hv hpq)
              have b1 := whr_lt (c := c) (p : Nat)
              have b2 := han_lt (c := c) (p : Nat)
              refine gwp_region ?_
              refine v0 (k := ?_)
              refine v0 (k := ?_)
              refine v0 (k := ?_)
              refine rb 230 false (h := by (first | with_reducible rfl | exact decide_eq_false (by omega) | exact nd_f (by omega) | rfl | decide)) (k := ?_)
              refine v0 (k := ?_)
              refine w0 (k := ?_)
              refine w0 (k := ?_)
              refine w0 (k := ?_)
              refine rb 234 false (h := by (first | with_reducible rfl | exact decide_eq_false (by omega) | exact nd_f (by omega) | rfl | decide)) (k := ?_)
              refine v0 (k := ?_)
              refine v0 (k := ?_)
              refine w0 (k := ?_)
              refine w0 (k := ?_)
              refine w0 (k := ?_)
              refine rb 239 false (h := by (first | with_reducible rfl | exact decide_eq_false (by omega) | exact nd_f (by omega) | rfl | decide)) (k := ?_)
              refine v0 (k := ?_)
              refine v0 (k := ?_)
              refine w0 (k := ?_)
              refine w0 (k := ?_)
              refine rb 243 false (h := by (first | with_reducible rfl | exact decide_eq_false (by omega) | exact nd_f (by omega) | rfl | decide)) (k := ?_)
              refine v0 (k := ?_)
              refine v0 (k := ?_)
              refine w0 (k := ?_)
              refine w0 (k := ?_)
              refine ocw [] [] [0, 0, 0] none (spec := q_40 c hv b (whrA c (p : Nat)).1 hb8 (by omega)) (hent := ent40) (k := ?_)
              refine w0 (k := ?_)
              refine w0 (k := ?_)
              refine rb 250 false (h := by (first | with_reducible rfl | exact decide_eq_false (by omega) | exact nd_f (by omega) | rfl | decide)) (k := ?_)
              refine v0 (k := ?_)
              refine v0 (k := ?_)
              refine w0 (k := ?_)
              refine w0 (k := ?_)
              refine w0 (k := ?_)
              refine rb 255 false (h := by (first | with_reducible rfl | exact decide_eq_false (by omega) | exact nd_f (by omega) | rfl | decide)) (k := ?_)
              refine v0 (k := ?_)
              refine v0 (k := ?_)
              refine w0 (k := ?_)
              refine w0 (k := ?_)
              refine rb 259 false (h := by (first | with_reducible rfl | exact decide_eq_false (by omega) | exact nd_f (by omega) | rfl | decide)) (k := ?_)
              refine v0 (k := ?_)
              refine v0 (k := ?_)
              refine w0 (k := ?_)
              refine w0 (k := ?_)
              refine rb 263 false (h := by (first | with_reducible rfl | exact decide_eq_false (by omega) | exact nd_f (by omega) | rfl | decide)) (k := ?_)
              refine v0 (k := ?_)
              refine v0 (k := ?_)
              refine w0 (k := ?_)
              refine w0 (k := ?_)
              refine ocw [] [] [0, 0, 0] none (spec := q_40 c hv b (hanA c (p : Nat)).1.1 hb8 (by omega)) (hent := ent40) (k := ?_)
              refine w0 (k := ?_)
              refine w0 (k := ?_)
              refine rb 270 false (h := by (first | with_reducible rfl | exact decide_eq_false (by omega) | exact nd_f (by omega) | rfl | decide)) (k := ?_)
              refine v0 (k := ?_)
              refine v0 (k := ?_)
              refine w0 (k := ?_)
              refine w0 (k := ?_)
              refine ocw [] [] [0, 0, 0] none (spec := q_40 c hv b (hanA c (p : Nat)).1.2 hb8 (by omega)) (hent := ent40) (k := ?_)
              refine w0 (k := ?_)
              refine w0 (k := ?_)
              refine rb 277 false (h := by (first | with_reducible rfl | exact decide_eq_false (by omega) | exact nd_f (by omega) | rfl | decide)) (k := ?_)
              refine v0 (k := ?_)
              refine v0 (k := ?_)
              refine w0 (k := ?_)
              refine w0 (k := ?_)
              refine w0 (k := ?_)
              refine rb 282 false (h := by (first | with_reducible rfl | exact decide_eq_false (by omega) | exact nd_f (by omega) | rfl | decide)) (k := ?_)
              refine v0 (k := ?_)
              refine v0 (k := ?_)
              refine w0 (k := ?_)
              refine w0 (k := ?_)
              refine w0 (k := ?_)
              refine rb 287 false (h := by (first | with_reducible rfl | exact decide_eq_false (by omega) | exact nd_f (by omega) | rfl | decide)) (k := ?_)
              refine v0 (k := ?_)
              refine v0 (k := ?_)
              refine w0 (k := ?_)
              refine w0 (k := ?_)
              refine w0 (k := ?_)
              refine rb 292 false (h := by (first | with_reducible rfl | exact decide_eq_false (by omega) | exact nd_f (by omega) | rfl | decide)) (k := ?_)
              refine v0 (k := ?_)
              refine v0 (k := ?_)
              refine w0 (k := ?_)
              refine w0 (k := ?_)
              refine w0 (k := ?_)
              refine rb 297 false (h := by (first | with_reducible rfl | exact decide_eq_false (by omega) | exact nd_f (by omega) | rfl | decide)) (k := ?_)
              refine v0 (k := ?_)
              refine v0 (k := ?_)
              refine w0 (k := ?_)
              refine w0 (k := ?_)
              refine w0 (k := ?_)
              refine rb 302 false (h := by (first | with_reducible rfl | exact decide_eq_false (by omega) | exact nd_f (by omega) | rfl | decide)) (k := ?_)
              refine v0 (k := ?_)
              refine nil0 ?_
              repeat refine gwp_seq ?_
              refine cF (k := ?_)
              repeat refine gwp_seq ?_
              refine gwp_skip ?_
              refine cl [1, 3, 11, 17, 18, 35, 36, 39] (k := ?_)
              repeat refine gwp_seq ?_
              refine gwp_region ?_
              refine v0 (k := ?_)
              refine v0 (k := ?_)
              refine v0 (k := ?_)
              refine v0 (k := ?_)
              refine v0 (k := ?_)
              refine pc0 (spec := w_holder c hv p hpl c.rs.length (Nat.le_refl _)) (hent := ent15) (k := ?_)
              refine v0 (k := ?_)
              refine v0 (k := ?_)
              refine v0 (k := ?_)
              refine v0 (k := ?_)
              refine v0 (k := ?_)
              refine nil0 ?_
              refine cl [1, 3, 11, 17, 18, 35, 36, 39, 41, 42] (k := ?_)
              repeat refine gwp_seq ?_
              refine gwp_region ?_
              refine v0 (k := ?_)
              refine v0 (k := ?_)
              refine v0 (k := ?_)
              refine v0 (k := ?_)
              refine v0 (k := ?_)
              refine pc0 (spec := w_holder (c.only (p : Nat)) hvo p hpl (c.only (p : Nat)).rs.length (Nat.le_refl _)) (hent := ent15) (k := ?_)
              refine v0 (k := ?_)
              refine v0 (k := ?_)
              refine v0 (k := ?_)
              refine v0 (k := ?_)
              refine v0 (k := ?_)
              refine nil0 ?_
              refine cl [1, 3, 11, 17, 18, 35, 36, 39, 41, 42, 43, 44] (k := ?_)
              repeat refine gwp_seq ?_
              have g13 := eqI (only_hol c (p : Nat))
              refine gwp_region ?_
              refine v0 (k := ?_)
              refine v0 (k := ?_)
              refine v0 (k := ?_)
              refine rb 324 false (h := by (first | with_reducible rfl | exact decide_eq_false (by omega) | exact nd_f (by omega) | rfl | decide)) (k := ?_)
              refine v0 (k := ?_)
              refine w0 (k := ?_)
              refine w0 (k := ?_)
              refine w0 (k := ?_)
              refine rb 328 false (h := by (first | with_reducible rfl | exact decide_eq_false (by omega) | exact nd_f (by omega) | rfl | decide)) (k := ?_)
              refine v0 (k := ?_)
              refine nil0 ?_
              repeat refine gwp_seq ?_
              refine cF (k := ?_)
              repeat refine gwp_seq ?_
              refine gwp_skip ?_
              refine cl [1, 3, 11, 17, 18, 35, 36, 39] (k := ?_)
              repeat refine gwp_seq ?_
              refine gwp_region ?_
              refine v0 (k := ?_)
              refine v0 (k := ?_)
              refine v0 (k := ?_)
              refine nil0 ?_
              refine cl [1, 3, 11, 18, 35, 36, 39, 330, 331, 332] (k := ?_)
              repeat refine gwp_seq ?_
              refine gwp_block ?_
              repeat refine gwp_seq ?_
              refine gc_loop (fun mz σ => ∃ k : Nat, (k ≤ c.rs.length) ∧ mz = c.rs.length - k ∧ σ = (sg [(1, .p (.int .i64 (p : Nat))), (3, .ptr [.p (.int .i64 c.pl), .p (.int .i64 c.ps), .p (.list (c.kn.map pk)), .p (.list (c.rs.map pr)), .p (.int .i64 c.ms)]), (11, .ref 210 0), (18, .own 1740 c.kn.length), (35, .p (.int .i64 (brkV c (p : Nat)).1)), (36, .p (.int .i64 (brkV c (p : Nat)).2)), (39, .p (.int .i64 (brkV (c.only (p : Nat)) (p : Nat)).1)), (330, .own 1700 c.rs.length), (331, .p (.int .i64 (c.rs.length : Nat))), (332, .p (.int .i64 (k : Nat)))] [(210, .cells [.p (.int .i64 c.pl), .p (.int .i64 c.ps), .p (.list (c.kn.map pk)), .own 3030 (c.rs.filter (isP (p : Nat))).length, .p (.int .i64 c.ms)] 0), (1740, .arr 50 2 (c.kn.map pk) true), (1700, .arr 52 3 (c.rs.map pr) true), (3030, .arr 52 3 ((c.rs.filter (isP (p : Nat))).map pr) true)] A [] : Sg E)) ?_ (fun mz σ hI => ?_)
              · refine lbeg [1, 3, 11, 18, 35, 36, 39, 330, 331, 332] (hV := ?_)
                exact ⟨_, 0, by omega, rfl, rfl⟩
              obtain ⟨k, hk, hnn, rfl⟩ := hI
              repeat refine gwp_seq ?_
              refine gwp_region ?_
              refine v0 (k := ?_)
              refine nil0 ?_
              repeat refine gwp_seq ?_
              refine cB (k1 := fun hb8 => ?_) (k0 := fun hb8 => ?_)
              · replace hb8 := hB.h {} hb8
                try rw [eqI] at hb8
                repeat refine gwp_seq ?_
                refine gwp_skip ?_
                refine cl [1, 3, 11, 18, 35, 36, 39, 330, 331, 332] (k := ?_)
                repeat refine gwp_seq ?_
                refine gwp_block ?_
                repeat refine gwp_seq ?_
                obtain ⟨⟨r1, r2, r3⟩, hr⟩ := getE (l := c.rs) (k := k) (by omega)
                refine gwp_region ?_
                refine v0 (k := ?_)
                refine v1 (hc := kLt1.h {}) (k := ?_)
                refine v0 (k := ?_)
                refine n1 560 false (hc := kLt1.h {}) (k := ?_)
                refine v0 (k := ?_)
                refine s1 (hc := kLt1.h {}) (k := ?_)
                refine nil0 ?_
                refine cl [1, 3, 11, 18, 35, 36, 39, 45, 46, 330, 331, 332] (k := ?_)
                repeat refine gwp_seq ?_
                refine rd ?_
                refine d0 0 (k := ?_)
                refine d0 1 (k := ?_)
                refine d0 2 (k := ?_)
                refine d1 3 (hc := kLt1.h {}) (k := ?_)
                refine d0 4 (k := ?_)
                refine d0 5 (k := ?_)
                refine d1 6 (hc := by (exact heg52)) (k := ?_)
                refine dz 7 [0, 1, 0, 7, 15, 0, 63] (h := ?_)
                refine de 7 (h := ?_)
                repeat refine gwp_seq ?_
                refine cF (k := ?_)
                repeat refine gwp_seq ?_
                refine gwp_skip ?_
                refine cl [1, 3, 11, 18, 35, 36, 39, 330, 331, 332] (k := ?_)
                repeat refine gwp_seq ?_
                refine gwp_region ?_
                refine v1 (hc := kLt1.h {}) (k := ?_)
                refine v0 (k := ?_)
                refine nil0 ?_
                refine lend [1, 3, 11, 18, 35, 36, 39, 330, 331, 332] (h := ?_) (hV := ?_) (n' := c.rs.length - (k + 1))
                · omega
                exact ⟨k + 1, by omega, rfl, rfl⟩
              · replace hb8 := hB.h {} hb8
                try rw [eqI] at hb8
                repeat refine gwp_seq ?_
                refine gwp_exit ?_
                repeat (first | refine gthen_exit ?_ | refine gnoGoto_exit ?_ | refine gblock_here ?_ | refine gblock_out rfl ?_)
                refine cl [1, 3, 11, 18, 35, 36, 39] (k := ?_)
                repeat refine gwp_seq ?_
                refine gwp_region ?_
                refine v0 (k := ?_)
                refine v0 (k := ?_)
                refine v0 (k := ?_)
                refine nil0 ?_
                refine cl [1, 3, 11, 35, 36, 39, 345, 346, 347] (k := ?_)
                repeat refine gwp_seq ?_
                refine gwp_block ?_
                repeat refine gwp_seq ?_
                refine gc_loop (fun mz σ => ∃ k : Nat, (k ≤ c.kn.length) ∧ mz = c.kn.length - k ∧ σ = (sg [(1, .p (.int .i64 (p : Nat))), (3, .ptr [.p (.int .i64 c.pl), .p (.int .i64 c.ps), .p (.list (c.kn.map pk)), .p (.list (c.rs.map pr)), .p (.int .i64 c.ms)]), (11, .ref 210 0), (35, .p (.int .i64 (brkV c (p : Nat)).1)), (36, .p (.int .i64 (brkV c (p : Nat)).2)), (39, .p (.int .i64 (brkV (c.only (p : Nat)) (p : Nat)).1)), (345, .own 1740 c.kn.length), (346, .p (.int .i64 (c.kn.length : Nat))), (347, .p (.int .i64 (k : Nat)))] [(210, .cells [.p (.int .i64 c.pl), .p (.int .i64 c.ps), .p (.list (c.kn.map pk)), .own 3030 (c.rs.filter (isP (p : Nat))).length, .p (.int .i64 c.ms)] 0), (1740, .arr 50 2 (c.kn.map pk) true), (3030, .arr 52 3 ((c.rs.filter (isP (p : Nat))).map pr) true)] A [] : Sg E)) ?_ (fun mz σ hI => ?_)
                · refine lbeg [1, 3, 11, 35, 36, 39, 345, 346, 347] (hV := ?_)
                  exact ⟨_, 0, by omega, rfl, rfl⟩
                obtain ⟨k, hk, hnn, rfl⟩ := hI
                repeat refine gwp_seq ?_
                refine gwp_region ?_
                refine v0 (k := ?_)
                refine nil0 ?_
                repeat refine gwp_seq ?_
                refine cB (k1 := fun hb9 => ?_) (k0 := fun hb9 => ?_)
                · replace hb9 := hB.h {} hb9
                  try rw [eqI] at hb9
                  repeat refine gwp_seq ?_
                  refine gwp_skip ?_
                  refine cl [1, 3, 11, 35, 36, 39, 345, 346, 347] (k := ?_)
                  repeat refine gwp_seq ?_
                  refine gwp_block ?_
                  repeat refine gwp_seq ?_
                  obtain ⟨⟨z1, z2⟩, hz⟩ := getE (l := c.kn) (k := k) (by omega)
                  refine gwp_region ?_
                  refine v0 (k := ?_)
                  refine v1 (hc := kLt1.h {}) (k := ?_)
                  refine v0 (k := ?_)
                  refine n1 580 false (hc := kLt1.h {}) (k := ?_)
                  refine v0 (k := ?_)
                  refine s1 (hc := kLt1.h {}) (k := ?_)
                  refine nil0 ?_
                  refine cl [1, 3, 11, 35, 36, 39, 47, 48, 345, 346, 347] (k := ?_)
                  repeat refine gwp_seq ?_
                  refine rd ?_
                  refine d0 0 (k := ?_)
                  refine d0 1 (k := ?_)
                  refine d0 2 (k := ?_)
                  refine d1 3 (hc := kLt1.h {}) (k := ?_)
                  refine d0 4 (k := ?_)
                  refine d0 5 (k := ?_)
                  refine d1 6 (hc := by (exact heg50)) (k := ?_)
                  refine dz 7 [0, 1, 0, 7, 15, 0, 63] (h := ?_)
                  refine de 7 (h := ?_)
                  repeat refine gwp_seq ?_
                  refine cF (k := ?_)
                  repeat refine gwp_seq ?_
                  refine gwp_skip ?_
                  refine cl [1, 3, 11, 35, 36, 39, 345, 346, 347] (k := ?_)
                  repeat refine gwp_seq ?_
                  refine gwp_region ?_
                  refine v1 (hc := kLt1.h {}) (k := ?_)
                  refine v0 (k := ?_)
                  refine nil0 ?_
                  refine lend [1, 3, 11, 35, 36, 39, 345, 346, 347] (h := ?_) (hV := ?_) (n' := c.kn.length - (k + 1))
                  · omega
                  exact ⟨k + 1, by omega, rfl, rfl⟩
                · replace hb9 := hB.h {} hb9
                  try rw [eqI] at hb9
                  repeat refine gwp_seq ?_
                  refine gwp_exit ?_
                  repeat (first | refine gthen_exit ?_ | refine gnoGoto_exit ?_ | refine gblock_here ?_ | refine gblock_out rfl ?_)
                  refine cl [1, 3, 11, 35, 36, 39] (k := ?_)
                  repeat refine gwp_seq ?_
                  rcases only_or hv hpq with ⟨h4, h5⟩ | ⟨k, k2, ⟨r1, r2, r3⟩, hb1, hb2, he1, he2, hr1, hr2, hpp⟩
                  · repeat refine gwp_seq ?_
                    refine gwp_region ?_
                    refine v0 (k := ?_)
                    refine v0 (k := ?_)
                    refine rb 361 true (h := by (first | with_reducible rfl | exact decide_eq_true (by omega) | exact nd_t (by omega) | rfl | decide)) (k := ?_)
                    refine nil0 ?_
                    repeat refine gwp_seq ?_
                    refine cT (k := ?_)
                    repeat refine gwp_seq ?_
                    refine gwp_region ?_
                    refine pc0 (spec := l_alive) (hent := ent14) (k := ?_)
                    refine v0 (k := ?_)
                    refine nil0 ?_
                    repeat refine gwp_seq ?_
                    refine gwp_ret ?_
                    repeat (first | refine gthen_ret ?_ | refine gblock_ret ?_ | refine gnoGoto_ret ?_)
                    refine fin_ret ?_
                    refine fp (hR := ?_)
                    rfl
                  · rw [hb1, hb2]
                    have hkl := (List.getElem?_eq_some_iff.1 hr1).1
                    have hkl2 := (List.getElem?_eq_some_iff.1 hr2).1
                    have q1 : ¬ ((k : Nat) : Int) < 0 := by omega
                    have q2 : ¬ ((k2 : Nat) : Int) < 0 := by omega
                    have q3 : ¬ (c.rs.length : Int) ≤ ((k : Nat) : Int) := by omega
                    have q4 : ¬ ((c.rs.filter (isP (p : Nat))).length : Int) ≤ ((k2 : Nat) : Int) := by omega
                    repeat refine gwp_seq ?_
                    refine gwp_region ?_
                    refine v0 (k := ?_)
                    refine v0 (k := ?_)
                    refine rb 361 false (h := by (first | with_reducible rfl | exact decide_eq_false (by omega) | exact nd_f (by omega) | rfl | decide)) (k := ?_)
                    refine nil0 ?_
                    repeat refine gwp_seq ?_
                    refine cF (k := ?_)
                    repeat refine gwp_seq ?_
                    refine gwp_skip ?_
                    refine cl [1, 3, 11, 35, 39] (k := ?_)
                    repeat refine gwp_seq ?_
                    refine rd ?_
                    refine d0 0 (k := ?_)
                    refine d0 1 (k := ?_)
                    refine d0 2 (k := ?_)
                    refine dw0 3 (k := ?_)
                    refine dw0 4 (k := ?_)
                    refine dw0 5 (k := ?_)
                    refine dw0 6 (k := ?_)
                    refine dw0 7 (k := ?_)
                    refine d0 8 (k := ?_)
                    refine d0 9 (k := ?_)
                    refine dw0 10 (k := ?_)
                    refine dw0 11 (k := ?_)
                    refine d0 12 (k := ?_)
                    refine d0 13 (k := ?_)
                    refine dw0 14 (k := ?_)
                    refine dw0 15 (k := ?_)
                    refine dw0 16 (k := ?_)
                    refine dw0 17 (k := ?_)
                    refine dw0 18 (k := ?_)
                    refine d0 19 (k := ?_)
                    refine d0 20 (k := ?_)
                    refine dw0 21 (k := ?_)
                    refine dw0 22 (k := ?_)
                    refine dw0 23 (k := ?_)
                    refine dw1 24 (hc := kLt1.h {}) (k := ?_)
                    refine dw0 25 (k := ?_)
                    refine dw0 26 (k := ?_)
                    refine dw0 27 (k := ?_)
                    refine dw0 28 (k := ?_)
                    refine dw1 29 (hc := by (simp [P.size, pr] <;> first | omega | (rintro _ _ _ _ rfl; rfl) | exact ⟨hkl2, by rintro _ _ _ _ rfl; rfl⟩)) (k := ?_)
                    refine dw0 30 (k := ?_)
                    refine dw1 31 (hc := by (exact heg52)) (k := ?_)
                    refine d0 32 (k := ?_)
                    refine dz 33 [0, 1, 3, 7, 7, 23, 55, 127, 255, 511, 1023, 2047, 4095, 8191, 16383, 16383, 49151, 114687, 262143, 524287, 1048575, 2097151, 4194303, 2097151, 16777215, 33554431, 2097151, 69206015, 2097151, 471859199, 1008730111, 2147483647, 4294967295] (h := ?_)
                    refine de 33 (h := ?_)
                    repeat refine gwp_seq ?_
                    refine cF (k := ?_)
                    repeat refine gwp_seq ?_
                    refine gwp_skip ?_
                    refine cl [1, 3, 11, 35, 39] (k := ?_)
                    repeat refine gwp_seq ?_
                    refine gwp_region ?_
                    refine v0 (k := ?_)
                    refine v0 (k := ?_)
                    refine v0 (k := ?_)
                    refine pc0 (spec := c_path c (by omega) (by omega) (p : Nat) (k : Nat)) (hent := ent19) (k := ?_)
                    refine v0 (k := ?_)
                    refine v0 (k := ?_)
                    refine v0 (k := ?_)
                    refine v0 (k := ?_)
                    refine v0 (k := ?_)
                    refine nil0 ?_
                    refine cl [1, 11, 39, 49, 50] (k := ?_)
                    repeat refine gwp_seq ?_
                    refine gwp_region ?_
                    refine v0 (k := ?_)
                    refine v0 (k := ?_)
                    refine v0 (k := ?_)
                    refine pc0 (spec := c_path (c.only (p : Nat)) ho1 ho2 (p : Nat) (k2 : Nat)) (hent := ent19) (k := ?_)
                    refine v0 (k := ?_)
                    refine v0 (k := ?_)
                    refine v0 (k := ?_)
                    refine v0 (k := ?_)
                    refine v0 (k := ?_)
                    refine nil0 ?_
                    refine cl [49, 50, 51, 52] (k := ?_)
                    repeat refine gwp_seq ?_
                    refine gwp_region ?_
                    refine v0 (k := ?_)
                    refine v0 (k := ?_)
                    refine pc0 (spec := ints_same (pathA c (p : Nat) (k : Nat)).1 (pathA_le _ _ _)) (hent := ent23) (k := ?_)
                    refine rb 412 true (h := by (rfl)) (k := ?_)
                    refine v0 (k := ?_)
                    refine w0 (k := ?_)
                    refine w0 (k := ?_)
                    refine w0 (k := ?_)
                    refine rb 416 true (h := by (first | with_reducible rfl | exact decide_eq_true (by omega) | exact nd_t (by omega) | rfl | decide)) (k := ?_)
                    refine v0 (k := ?_)
                    refine v0 (k := ?_)
                    refine pcw (spec := l_alive) (hent := ent14) (k := ?_)
                    refine v0 (k := ?_)
                    refine v0 (k := ?_)
                    refine nil0 ?_
                    repeat refine gwp_seq ?_
                    refine gwp_ret ?_
                    repeat (first | refine gthen_ret ?_ | refine gblock_ret ?_ | refine gnoGoto_ret ?_)
                    refine fin_ret ?_
                    refine fp (hR := ?_)
                    rfl
end Go.Proofs.Ytagdholenfkeaaa

/- The statement ChainTurned, for every input: the law returns true, and its arguments read as they did.  -/
namespace Go.Proofs.Ytagdholenfkeaaa
open Go.Gh Go.ChangeShapes Go.WideShapes Go.ChangeAt Go.RowKit
set_option maxRecDepth 100000
theorem aj_turned : ∀ ps, FitAs [(true, chSS), (false, [.int .i64]), (false, [.int .u8])] ps → PSpec Try.prog 12 ps (.ok (.bool true)) := fun ps h => by
  simp only [FitAs] at h
  obtain ⟨_, _, rfl, q0, _, _, rfl, q1, _, _, rfl, q2, rfl⟩ := h
  obtain ⟨c, rfl, hc1, hc2, hc3, hc4, hc5, hc6, hc7⟩ := ch_of q0
  obtain ⟨x, rfl, hx⟩ := int_of q1
  obtain ⟨b, rfl, hb⟩ := u8_of q2
  exact l_turned c x b hb
theorem turned_lifted (os : Os) (started : os.Started) (H : Type) (enc : TypeId × Value → H) :
    ReturnsInHanded {} Try.checked os 12 .any (Rows.chainTurnedSpec.pre6 enc Try.prog Try.f12 Rows.chainTurnedRow.domain false) (Rows.chainTurnedSpec.post enc Try.prog Try.f12 false true false false) := by
  refine returnsInHanded_of_change (C := Try.checked) own started (by kernel_rfl) Try.func12
    (ChangeSpec.witness6 (enc := enc) (C := Try.checked) false ⟨#[], #[.agg #[.int .i64 0, .int .i64 0, .slice none 0 0, .slice none 0 0, .int .i64 0], .int .i64 0, .int .u8 0], []⟩ 8 (by kernel_rfl) (by kernel_rfl) (by kernel_rfl) (by kernel_rfl)) ?_
  intro W base args ds gs before hval hW _ _
  exact law_post (n := 9) (ss := [(true, chSS), (false, [.int .i64]), (false, [.int .u8])]) (b := 4) laidOut (by kernel_rfl) (by kernel_rfl) (by kernel_rfl) (by kernel_rfl) rfl
    (fun ds hd => by
      have hd' : ds.length = 3 := hd
      match ds, hd' with
      | [a, b, c], _ => rfl) aj_turned hval hW
theorem turned_holds : Rows.ChainTurnedSaid :=
  OpenClaim.holds_of_wide 12 Try.f12 rfl rfl rfl rfl rfl rfl rfl ⟨rfl, rfl, rfl, rfl, rfl⟩ rfl rfl rfl rfl rfl (by kernel_rfl) Try.func12 (by kernel_rfl)
    (of_decide_eq_true (by kernel_rfl)) (by unfold Func.isWrapper; first | (rw [if_pos (by decide +kernel)]; kernel_rfl) | (rw [if_neg (by decide +kernel)]; exact ⟨rfl, rfl⟩))
    (fun os started H enc _ => turned_lifted os started H enc)
end Go.Proofs.Ytagdholenfkeaaa
