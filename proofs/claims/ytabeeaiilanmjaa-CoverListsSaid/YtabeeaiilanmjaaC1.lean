/- The statement CoverLists: the call returns true for every input, and its arguments read as before; no condition. -/
import Derived.Test.YtabeeaiilanmjaaB3
set_option linter.unusedVariables false
set_option linter.unusedSimpArgs false
/- More plates serve no less: sets that are lists, and larger ones. -/
namespace Go.Proofs.Ytabeeaiilanmjaa
open Go.Gh
set_option maxRecDepth 100000
/-- One set lies in another. -/
def Sub (s t : Nat) : Prop := ∀ i, s.testBit i = true → t.testBit i = true
theorem Sub.refl (s : Nat) : Sub s s := fun _ h => h
theorem Sub.trans {s t u : Nat} (h : Sub s t) (k : Sub t u) : Sub s u := fun i hi => k i (h i hi)
theorem and_sub (s t : Nat) : Sub (s &&& t) s := fun i h => by rw [Nat.testBit_and, Bool.and_eq_true] at h; exact h.1
theorem and_sub2 (s t : Nat) : Sub (s &&& t) t := fun i h => by rw [Nat.testBit_and, Bool.and_eq_true] at h; exact h.2
theorem Sub.and {s t : Nat} (h : Sub s t) (a : Nat) : Sub (a &&& s) (a &&& t) := fun i hi => by
  rw [Nat.testBit_and, Bool.and_eq_true] at hi ⊢
  exact ⟨hi.1, h i hi.2⟩
theorem days_sub {ps : List Sk} {s t : Nat} (h : Sub s t) : ∀ k, (daysN ps s k).Sublist (daysN ps t k)
  | 0 => List.Sublist.refl _
  | k + 1 => by
    have ih := days_sub (ps := ps) h k
    rw [daysN, daysN]
    split
    · by_cases hs : s.testBit k = true
      · rw [if_pos hs, if_pos (h k hs)]
        exact ih.append (List.Sublist.refl _)
      rw [if_neg hs]
      split
      · exact ih.trans (List.sublist_append_left _ _)
      exact ih
    exact ih
/-- From a longer list no fewer can be chosen. -/
theorem most_sub {gap : Int} {l m : List Int} (h : l.Sublist m) : mostR gap l [] ≤ mostR gap m [] := by
  obtain ⟨t, h1, h2, h3⟩ := most_has gap l [] List.Pairwise.nil
  have := most_max gap m [] t (h1.trans h) h2
  rw [h3]
  exact this
theorem serv_sub {f : Fd} (hv : f.valid = true) {s t : Nat} (h : Sub s t) (hs : servQ f s = true) : servQ f t = true := by
  have hn := valid_num hv
  rw [servQ, grd_most (by omega), decide_eq_true_eq] at hs ⊢
  have := most_sub (gap := f.gp) (days_sub (ps := f.ps) h f.ps.length)
  omega
theorem list_sub {f : Fd} (hv : f.valid = true) {s t : Nat} (h : Sub s t) (hs : listQ f s = true) : listQ f t = true := by
  rw [listQ, List.all_eq_true] at hs ⊢
  exact fun p hp => serv_sub hv (h.and _) (hs p hp)
theorem at_used (f : Fd) (x y : Int) : Sub (atN f x y) (usedN f f.ps.length) := fun i h => by
  rw [atN, atK, setN_bit, Bool.and_eq_true, decide_eq_true_eq] at h
  rw [usedN, setN_bit, Bool.and_eq_true, decide_eq_true_eq]
  refine ⟨h.1, ?_⟩
  obtain ⟨h1, h2⟩ := h
  rw [plQ] at h2 ⊢
  split at h2
  · rename_i p hp
    rw [Bool.and_eq_true] at h2
    exact h2.1
  cases h2
theorem used_lt2 (f : Fd) : usedN f f.ps.length < 2 ^ f.ps.length := setN_lt2 _ _
theorem and_and {a u s : Nat} (h : Sub a u) : a &&& (s &&& u) = a &&& s := Nat.eq_of_testBit_eq fun i => by
  rw [Nat.testBit_and, Nat.testBit_and, Nat.testBit_and]
  cases ha : a.testBit i with
  | false => rfl
  | true => rw [h i ha, Bool.and_true]
/-- Plates of no use make no list. -/
theorem list_used (f : Fd) (s : Nat) : listQ f (s &&& usedN f f.ps.length) = listQ f s := by
  rw [listQ, listQ]
  congr 1
  funext p
  rw [and_and (at_used f p.1 p.2)]
theorem all_bit {n i : Nat} : (allS n).testBit i = decide (i < n) := by rw [allS, Nat.testBit_two_pow_sub_one]
theorem all_sub {s n : Nat} (h : s < 2 ^ n) : Sub s (allS n) := fun i hi => by
  rw [all_bit, decide_eq_true_eq]
  apply Nat.lt_of_not_le
  intro h2
  rw [lt_bit h h2] at hi; cases hi
theorem list_all {f : Fd} : listQ f (allS f.ps.length) = listQ f (usedN f f.ps.length) := by
  rw [← list_used f (allS f.ps.length)]
  congr 1
  refine Nat.eq_of_testBit_eq fun i => ?_
  rw [Nat.testBit_and]
  cases h : (usedN f f.ps.length).testBit i with
  | false => rw [Bool.and_false]
  | true => rw [all_sub (used_lt2 f) i h]; rfl
theorem list_mis (f : Fd) (s : Nat) : (misL f s = []) ↔ listQ f s = true := by
  rw [misL, List.filter_eq_nil_iff, listQ, List.all_eq_true]
  constructor
  · intro h p hp
    have := h p hp
    rw [misQ] at this
    simpa using this
  intro h p hp
  rw [misQ, h p hp]
  simp
end Go.Proofs.Ytabeeaiilanmjaa

/- The shortest list: the first one by size, then by number; how many are as short; what is needed. -/
namespace Go.Proofs.Ytabeeaiilanmjaa
open Go.Gh
set_option maxRecDepth 100000
theorem mod_bit (n : Nat) : n % 2 = if n.testBit 0 = true then 1 else 0 := by
  rw [Nat.testBit_zero]
  by_cases h : n % 2 = 1
  · rw [h]; rfl
  rw [if_neg (by simpa using h)]; omega
theorem half_bit (n i : Nat) : (n / 2).testBit i = n.testBit (i + 1) := by rw [Nat.testBit_succ]
theorem Sub.half {s t : Nat} (h : Sub s t) : Sub (s / 2) (t / 2) := fun i hi => by rw [half_bit] at hi ⊢; exact h _ hi
/-- A set that lies in another one is no larger, and smaller unless it is the same. -/
theorem pop_sub : ∀ (n s t : Nat), s < 2 ^ n → t < 2 ^ n → n ≤ 12 → Sub s t → pop s < pop t ∨ s = t
  | 0, s, t, h1, h2, _, _ => .inr (by omega)
  | n + 1, s, t, h1, h2, hn, h => by
    have hp : 2 ^ (n + 1) ≤ 2 ^ 12 := Nat.pow_le_pow_right (by omega) hn
    have e1 := pop_half (m := s) (by omega)
    have e2 := pop_half (m := t) (by omega)
    rw [Nat.pow_succ] at h1 h2
    have ih := pop_sub n (s / 2) (t / 2) (by omega) (by omega) (by omega) h.half
    have hb : s % 2 ≤ t % 2 := by
      rw [mod_bit, mod_bit]
      by_cases h0 : s.testBit 0 = true
      · rw [if_pos h0, if_pos (h 0 h0)]; exact Nat.le_refl _
      rw [if_neg h0]; exact Nat.zero_le _
    rcases ih with ih | ih
    · left; omega
    rw [ih] at e1
    by_cases hb2 : s % 2 = t % 2
    · right; omega
    left; omega
theorem sub_of {s u : Nat} (hs : s < 2 ^ 62) (hu : u < 2 ^ 62) : s &&& (2 ^ 64 - 1 - u) = 0 ↔ Sub s u := by
  constructor
  · intro h i hi
    have h2 := congrArg (Nat.testBit · i) h
    simp only [Nat.testBit_and, Nat.zero_testBit, hi, Bool.true_and] at h2
    rw [show 2 ^ 64 - 1 - u = 2 ^ 64 - (u + 1) by omega, Nat.testBit_two_pow_sub_succ (by omega)] at h2
    have hi62 : i < 62 := Nat.lt_of_not_le fun h3 => by rw [lt_bit hs h3] at hi; cases hi
    rw [decide_eq_true (show i < 64 by omega)] at h2
    simpa using h2
  intro h
  exact Gh.sub_zero hs hu h
def Bef2 (a b : Nat) : Prop := pop a < pop b ∨ (pop a = pop b ∧ a < b)
theorem ok_pop {u z s : Nat} (h : okS u z s = true) : pop s = z := by
  rw [okS, Bool.and_eq_true, decide_eq_true_eq, decide_eq_true_eq] at h; exact h.2
theorem sz_pair (u z : Nat) : ∀ s, (szL u z s).Pairwise Bef2
  | 0 => List.Pairwise.nil
  | s + 1 => by
    have ih := sz_pair u z s
    rw [szL]
    split
    · rename_i h
      refine List.pairwise_append.2 ⟨ih, List.pairwise_singleton _ _, fun a ha b hb => ?_⟩
      rw [List.mem_singleton] at hb; subst hb
      have := sz_mem.1 ha
      exact .inr ⟨by rw [ok_pop this.2, ok_pop h], this.1⟩
    exact ih
theorem set_pair (u N : Nat) : ∀ Z, (setL u N Z).Pairwise Bef2
  | 0 => List.Pairwise.nil
  | Z + 1 => by
    rw [setL]
    refine List.pairwise_append.2 ⟨set_pair u N Z, sz_pair u Z N, fun a ha b hb => ?_⟩
    obtain ⟨_, z, h1, h2⟩ := set_mem.1 ha
    have h3 := sz_mem.1 hb
    left
    rw [ok_pop h2, ok_pop h3.2]; exact h1
theorem sets_mem {f : Fd} (hl : f.ps.length ≤ 12) {x : Nat} : x ∈ setsL f ↔ x < 2 ^ f.ps.length ∧ Sub x (usedN f f.ps.length) := by
  have hp : 2 ^ f.ps.length ≤ 2 ^ 12 := Nat.pow_le_pow_right (by omega) hl
  have hu := used_lt2 f
  rw [setsL, set_mem]
  constructor
  · rintro ⟨h1, z, _, h2⟩
    rw [okS, Bool.and_eq_true, decide_eq_true_eq] at h2
    exact ⟨h1, (sub_of (by omega) (by omega)).1 h2.1⟩
  rintro ⟨h1, h2⟩
  refine ⟨h1, pop x, ?_, ok_t ((sub_of (by omega) (by omega)).2 h2) rfl⟩
  rcases pop_sub _ x _ h1 hu hl h2 with h3 | h3
  · omega
  rw [← h3]; omega
/-- What is said of the shortest list. -/
structure Sho (f : Fd) (w : Nat) : Prop where
  lt : w < 2 ^ f.ps.length
  sub : Sub w (usedN f f.ps.length)
  ls : listQ f w = true
  min : ∀ s, s < 2 ^ f.ps.length → listQ f s = true → pop w < pop s ∨ (pop w = pop s ∧ w ≤ s)
theorem and_lt2 {s u n : Nat} (h : s < 2 ^ n) : s &&& u < 2 ^ n := Nat.lt_of_le_of_lt Nat.and_le_left h
theorem sho_some {f : Fd} (hv : f.valid = true) {w : Nat} (h : (setsL f).find? (listQ f) = some w) : Sho f w := by
  have hn := valid_num hv
  have hl : f.ps.length ≤ 12 := by omega
  obtain ⟨h1, l1, l2, h2, h3⟩ := List.find?_eq_some_iff_append.1 h
  have hm := (sets_mem hl).1 (List.mem_of_find?_eq_some h)
  refine ⟨hm.1, hm.2, h1, fun s hs hq => ?_⟩
  have hu := used_lt2 f
  have hq2 : listQ f (s &&& usedN f f.ps.length) = true := by rw [list_used]; exact hq
  have hsm : s &&& usedN f f.ps.length ∈ setsL f := (sets_mem hl).2 ⟨and_lt2 hs, and_sub2 _ _⟩
  have hpw : (setsL f).Pairwise Bef2 := set_pair _ _ _
  have hle : pop w < pop (s &&& usedN f f.ps.length) ∨ (pop w = pop (s &&& usedN f f.ps.length) ∧ w ≤ s &&& usedN f f.ps.length) := by
    rw [h2] at hsm hpw
    rcases List.mem_append.1 hsm with h4 | h4
    · have := h3 _ h4
      rw [hq2] at this; cases this
    rcases List.mem_cons.1 h4 with h4 | h4
    · rw [h4]; exact .inr ⟨rfl, Nat.le_refl _⟩
    have := (List.pairwise_cons.1 (List.pairwise_append.1 hpw).2.1).1 _ h4
    rcases this with h5 | h5
    · exact .inl h5
    exact .inr ⟨h5.1, by omega⟩
  rcases pop_sub _ (s &&& usedN f f.ps.length) s (and_lt2 hs) hs hl (and_sub _ _) with h5 | h5
  · left; omega
  rwa [h5] at hle
theorem sho_none {f : Fd} (hv : f.valid = true) : (setsL f).find? (listQ f) = none ↔ listQ f (usedN f f.ps.length) = false := by
  have hn := valid_num hv
  rw [List.find?_eq_none]
  constructor
  · intro h
    have := h _ ((sets_mem (by omega)).2 ⟨used_lt2 f, Sub.refl _⟩)
    simpa using this
  intro h x hx hq
  have := list_sub hv ((sets_mem (by omega)).1 hx).2 hq
  rw [h] at this; cases this
/-- One that is as short has just plates of use. -/
theorem same_sub {f : Fd} (hv : f.valid = true) {w : Nat} (h : Sho f w) {s : Nat} (hs : s < 2 ^ f.ps.length) (hq : listQ f s = true) (hp : pop s = pop w) : Sub s (usedN f f.ps.length) := by
  have hn := valid_num hv
  rcases pop_sub _ (s &&& usedN f f.ps.length) s (and_lt2 hs) hs (by omega) (and_sub _ _) with h5 | h5
  · have := h.min (s &&& usedN f f.ps.length) (and_lt2 hs) (by rw [list_used]; exact hq)
    omega
  rw [← h5]; exact and_sub2 _ _
/-- How many sets up to one are as short, and lists. -/
def numR (f : Fd) (w : Nat) : Nat → Nat
  | 0 => 0
  | s + 1 => if sameQ f w s = true then numR f w s + 1 else numR f w s
theorem num_le (f : Fd) (w : Nat) : ∀ s, numR f w s ≤ s
  | 0 => Nat.le_refl _
  | s + 1 => by have := num_le f w s; rw [numR]; split <;> omega
theorem sz_count {f : Fd} (hv : f.valid = true) {w : Nat} (h : Sho f w) : ∀ s, s ≤ 2 ^ f.ps.length → (szL (usedN f f.ps.length) (pop w) s).countP (sameQ f w) = numR f w s
  | 0, _ => rfl
  | s + 1, hs => by
    have hn := valid_num hv
    have hp : 2 ^ f.ps.length ≤ 2 ^ 12 := Nat.pow_le_pow_right (by omega) (by omega)
    have hu := used_lt2 f
    have ih := sz_count hv h s (by omega)
    rw [szL, numR]
    by_cases hq : sameQ f w s = true
    · have hq2 := hq
      rw [sameQ, Bool.and_eq_true, decide_eq_true_eq] at hq2
      have hsub := same_sub hv h (show s < 2 ^ f.ps.length by omega) hq2.2 hq2.1
      rw [if_pos (ok_t ((sub_of (by omega) (by omega)).2 hsub) hq2.1), if_pos hq, List.countP_append, ih, List.countP_cons_of_pos hq]; rfl
    rw [if_neg hq]
    split
    · rw [List.countP_append, ih, List.countP_cons_of_neg hq]; rfl
    exact ih
theorem set_count {f : Fd} {w u N : Nat} : ∀ Z, (setL u N Z).countP (sameQ f w) = if pop w < Z then (szL u (pop w) N).countP (sameQ f w) else 0
  | 0 => rfl
  | Z + 1 => by
    rw [setL, List.countP_append, set_count Z]
    by_cases h : pop w = Z
    · rw [if_neg (by omega), if_pos (by omega), Nat.zero_add, h]
    have : (szL u Z N).countP (sameQ f w) = 0 := by
      rw [List.countP_eq_zero]
      intro x hx hq
      rw [sameQ, Bool.and_eq_true, decide_eq_true_eq] at hq
      rw [ok_pop (sz_mem.1 hx).2] at hq
      omega
    rw [this, Nat.add_zero]
    by_cases h2 : pop w < Z
    · rw [if_pos h2, if_pos (by omega)]
    rw [if_neg h2, if_neg (by omega)]
theorem cnt_num {f : Fd} (hv : f.valid = true) {w : Nat} (h : Sho f w) : cntA f w = numR f w (2 ^ f.ps.length) := by
  have hn := valid_num hv
  rw [cntA, cntL, List.take_length, setsL, set_count, if_pos, sz_count hv h _ (Nat.le_refl _)]
  rcases pop_sub _ w _ h.lt (used_lt2 f) (by omega) h.sub with h3 | h3
  · omega
  rw [← h3]; omega
theorem off_bit {s k : Nat} (hk : k < 12) (i : Nat) : (s &&& (2 ^ 64 - 1 - 2 ^ k)).testBit i = (s.testBit i && !decide (k = i)) ∨ 64 ≤ i := by
  by_cases hi : 64 ≤ i
  · exact .inr hi
  left
  have h2 : 2 ^ k < 2 ^ 64 := Nat.pow_lt_pow_right (by omega) (by omega)
  rw [Nat.testBit_and, show 2 ^ 64 - 1 - 2 ^ k = 2 ^ 64 - (2 ^ k + 1) by omega, Nat.testBit_two_pow_sub_succ h2, decide_eq_true (show i < 64 by omega), Bool.true_and, Nat.testBit_two_pow]
end Go.Proofs.Ytabeeaiilanmjaa

/- The places that are apart: the program's choice is the longest one that comes first. -/
namespace Go.Proofs.Ytabeeaiilanmjaa
open Go.Gh
set_option maxRecDepth 100000
abbrev Pl := Int × Int
/-- Two sets have nothing together. -/
def Dis (a b : Nat) : Prop := ∀ i, ¬ (a.testBit i = true ∧ b.testBit i = true)
theorem Dis.symm {a b : Nat} (h : Dis a b) : Dis b a := fun i hi => h i ⟨hi.2, hi.1⟩
theorem off_iff {k s : Nat} (hk : k < 4096) (hs : s < 4096) : offN k s = 0 ↔ Sub k s := by
  constructor
  · intro h i hi
    have h1 := offN_bit hk hs i
    rw [h, Nat.zero_testBit, hi] at h1
    cases hb : s.testBit i with
    | true => rfl
    | false => rw [hb] at h1; cases h1
  intro h
  refine Nat.eq_of_testBit_eq fun i => ?_
  rw [offN_bit hk hs, Nat.zero_testBit]
  cases hb : k.testBit i with
  | false => rfl
  | true => rw [h i hb]; rfl
theorem sub_off {a k s : Nat} (hk : k < 4096) (hs : s < 4096) : Sub a (offN s k) ↔ Sub a s ∧ Dis a k := by
  constructor
  · intro h
    refine ⟨fun i hi => ?_, fun i hi => ?_⟩
    · have := h i hi; rw [offN_bit hs hk, Bool.and_eq_true] at this; exact this.1
    have := h i hi.1; rw [offN_bit hs hk, hi.2] at this; simp at this
  rintro ⟨h1, h2⟩ i hi
  rw [offN_bit hs hk, h1 i hi]
  cases hb : k.testBit i with
  | false => rfl
  | true => exact absurd ⟨hi, hb⟩ (h2 i)
theorem off_off {s a b : Nat} (hs : s < 4096) (ha : a < 4096) (hb : b < 4096) : offN (offN s a) b = offN (offN s b) a := by
  have h1 := offN_le s a
  have h2 := offN_le s b
  refine Nat.eq_of_testBit_eq fun i => ?_
  rw [offN_bit (by omega) hb, offN_bit hs ha, offN_bit (by omega) ha, offN_bit hs hb]
  cases s.testBit i <;> cases a.testBit i <;> cases b.testBit i <;> rfl
theorem not_dis {k : Nat} (h : k ≠ 0) : ¬ Dis k k := fun hd => h (Nat.eq_of_testBit_eq fun i => by
  rw [Nat.zero_testBit]
  cases hb : k.testBit i with
  | false => rfl
  | true => exact absurd ⟨hb, hb⟩ (hd i))
/-- Places of which each one's plates are in a set, no two on one plate. -/
structure Fit (K : Pl → Nat) (t : List Pl) (s : Nat) : Prop where
  sub : ∀ e ∈ t, Sub (K e) s
  dis : t.Pairwise fun a b => Dis (K a) (K b)
theorem Fit.nil {K : Pl → Nat} {s : Nat} : Fit K [] s := ⟨fun _ h => (List.not_mem_nil h).elim, List.Pairwise.nil⟩
theorem fit_cons {K : Pl → Nat} (hK : ∀ e, K e < 4096) {p : Pl} {t : List Pl} {s : Nat} (hs : s < 4096) : Fit K (p :: t) s ↔ Sub (K p) s ∧ Fit K t (offN s (K p)) := by
  constructor
  · rintro ⟨h1, h2⟩
    obtain ⟨h3, h4⟩ := List.pairwise_cons.1 h2
    exact ⟨h1 p List.mem_cons_self, fun e he => (sub_off (hK p) hs).2 ⟨h1 e (List.mem_cons_of_mem _ he), (h3 e he).symm⟩, h4⟩
  rintro ⟨h1, h2, h3⟩
  refine ⟨fun e he => ?_, List.pairwise_cons.2 ⟨fun e he => ((sub_off (hK p) hs).1 (h2 e he)).2.symm, h3⟩⟩
  rcases List.mem_cons.1 he with rfl | he
  · exact h1
  exact ((sub_off (hK p) hs).1 (h2 e he)).1
theorem Fit.perm {K : Pl → Nat} {t u : List Pl} {s : Nat} (h : Fit K t s) (hp : t.Perm u) : Fit K u s :=
  ⟨fun e he => h.sub e (hp.mem_iff.2 he), (hp.pairwise_iff fun h => Dis.symm h).1 h.dis⟩
theorem Fit.mono {K : Pl → Nat} {t u : List Pl} {s : Nat} (h : Fit K t s) (hp : u.Sublist t) : Fit K u s :=
  ⟨fun e he => h.sub e (hp.subset he), h.dis.sublist hp⟩
/-- The longest choice that comes first. -/
def far (K : Pl → Nat) : List Pl → Nat → List Pl
  | [], _ => []
  | p :: L, s => if offN (K p) s = 0 then (if (far K L s).length ≤ (far K L (offN s (K p))).length + 1 then p :: far K L (offN s (K p)) else far K L s) else far K L s
theorem far_sub {K : Pl → Nat} : ∀ (L : List Pl) (s : Nat), (far K L s).Sublist L
  | [], _ => List.Sublist.refl _
  | p :: L, s => by
    rw [far]
    split
    · split
      · exact (far_sub L _).cons_cons p
      exact (far_sub L s).cons p
    exact (far_sub L s).cons p
theorem far_fit {K : Pl → Nat} (hK : ∀ e, K e < 4096) : ∀ (L : List Pl) (s : Nat), s < 4096 → Fit K (far K L s) s
  | [], _, _ => Fit.nil
  | p :: L, s, hs => by
    have h1 := offN_le s (K p)
    rw [far]
    split
    · rename_i h
      split
      · exact (fit_cons hK hs).2 ⟨(off_iff (hK p) hs).1 h, far_fit hK L _ (by omega)⟩
      exact far_fit hK L s hs
    exact far_fit hK L s hs
def bef (a b : Pl) : Prop := a.1 < b.1 ∨ (a.1 = b.1 ∧ a.2 < b.2)
/-- Where two choices differ first one has the place that comes before. -/
def Lex (l t : List Pl) : Prop := ∀ i a b, l[i]? = some a → t[i]? = some b → l.take i = t.take i → a ≠ b → bef a b
theorem Lex.refl (l : List Pl) : Lex l l := fun i a b h1 h2 _ h => by rw [h1] at h2; cases h2; exact absurd rfl h
theorem far_best {K : Pl → Nat} (hK : ∀ e, K e < 4096) : ∀ (L : List Pl) (s : Nat) (t : List Pl), s < 4096 → L.Pairwise bef → t.Sublist L → Fit K t s → t.length ≤ (far K L s).length ∧ (t.length = (far K L s).length → Lex (far K L s) t)
  | [], s, t, _, _, h, _ => by
    rw [List.sublist_nil.1 h]
    exact ⟨Nat.le_refl _, fun _ => Lex.refl _⟩
  | p :: L, s, t, hs, hp, h, hf => by
    have hle := offN_le s (K p)
    obtain ⟨hb, hp2⟩ := List.pairwise_cons.1 hp
    rcases List.sublist_cons_iff.1 h with h2 | ⟨r, rfl, h2⟩
    · have ih := far_best hK L s t hs hp2 h2 hf
      rw [far]
      split
      · split
        · rename_i hl
          refine ⟨by rw [List.length_cons]; omega, fun _ i a b h3 h4 h5 h6 => ?_⟩
          cases i with
          | zero =>
            rw [List.getElem?_cons_zero] at h3; cases h3
            exact hb b (h2.subset (List.mem_of_getElem? h4))
          | succ i =>
            exfalso
            cases t with
            | nil => cases h4
            | cons q t =>
              rw [List.take_succ_cons, List.take_succ_cons] at h5
              have e : p = q := (List.cons.inj h5).1
              have := hb q (h2.subset List.mem_cons_self)
              rw [e] at this
              rcases this with h | h <;> omega
        exact ih
      exact ih
    obtain ⟨f1, f2⟩ := (fit_cons hK hs).1 hf
    have ih := far_best hK L (offN s (K p)) r (by omega) hp2 h2 f2
    rw [far, if_pos ((off_iff (hK p) hs).2 f1)]
    split
    · rw [List.length_cons, List.length_cons]
      refine ⟨by omega, fun h3 i a b h4 h5 h6 h7 => ?_⟩
      cases i with
      | zero =>
        rw [List.getElem?_cons_zero] at h4 h5
        cases h4; cases h5; exact absurd rfl h7
      | succ i =>
        rw [List.getElem?_cons_succ] at h4 h5
        rw [List.take_succ_cons, List.take_succ_cons] at h6
        exact ih.2 (by omega) i a b h4 h5 (List.cons.inj h6).2 h7
    rename_i hl
    rw [List.length_cons]
    exact ⟨by omega, fun h3 => by omega⟩
/-- No choice of places, in whatever order, is longer. -/
theorem far_all {K : Pl → Nat} (hK : ∀ e, K e < 4096) : ∀ (L : List Pl) (s : Nat) (t : List Pl), s < 4096 → (∀ e ∈ L, K e ≠ 0) → (∀ e ∈ t, e ∈ L) → Fit K t s → t.length ≤ (far K L s).length
  | [], s, t, _, _, h, _ => by
    cases t with
    | nil => exact Nat.le_refl _
    | cons p t => exact absurd (h p List.mem_cons_self) (List.not_mem_nil)
  | p :: L, s, t, hs, h0, h, hf => by
    have hle := offN_le s (K p)
    have h02 : ∀ e ∈ L, K e ≠ 0 := fun e he => h0 e (List.mem_cons_of_mem _ he)
    by_cases hm : p ∈ t
    · obtain ⟨a, b, rfl⟩ := List.append_of_mem hm
      have hf2 := hf.perm (List.perm_middle (a := p) (l₁ := a) (l₂ := b))
      obtain ⟨f1, f2⟩ := (fit_cons hK hs).1 hf2
      have ih := far_all hK L (offN s (K p)) (a ++ b) (by omega) h02 (fun e he => by
        have h3 : e ∈ a ++ p :: b := by
          rcases List.mem_append.1 he with h | h
          · exact List.mem_append_left _ h
          exact List.mem_append_right _ (List.mem_cons_of_mem _ h)
        rcases List.mem_cons.1 (h e h3) with h4 | h4
        · exfalso
          subst h4
          have := ((sub_off (hK e) hs).1 (f2.sub e he)).2
          exact not_dis (h0 e List.mem_cons_self) this
        exact h4) f2
      rw [far, if_pos ((off_iff (hK p) hs).2 f1)]
      simp only [List.length_append, List.length_cons] at ih ⊢
      split
      · rw [List.length_cons]; omega
      omega
    have ih := far_all hK L s t hs h02 (fun e he => by
      rcases List.mem_cons.1 (h e he) with h4 | h4
      · subst h4; exact absurd he hm
      exact h4) hf
    rw [far]
    split
    · split
      · rw [List.length_cons]; omega
      exact ih
    exact ih
/-! How many at the most: the program's number is the length of that choice. -/
section
variable {K : Pl → Nat} {L : List Pl}
def mosP (K : Pl → Nat) (L : List Pl) (s : Nat) : Nat := (far K L s).length
theorem mos_step (hK : ∀ e, K e < 4096) (h0 : ∀ e ∈ L, K e ≠ 0) {s : Nat} (hs : s < 4096) {e : Pl} (he : e ∈ L) (hsub : Sub (K e) s) : mosP K L (offN s (K e)) + 1 ≤ mosP K L s := by
  have hle := offN_le s (K e)
  have hf := far_fit hK L (offN s (K e)) (by omega)
  exact far_all hK L s (e :: far K L (offN s (K e))) hs h0 (fun x hx => by
    rcases List.mem_cons.1 hx with rfl | hx
    · exact he
    exact (far_sub L _).subset hx) ((fit_cons hK hs).2 ⟨hsub, hf⟩)
/-- Each place of the choice leaves one less. -/
theorem mos_mem (hK : ∀ e, K e < 4096) (h0 : ∀ e ∈ L, K e ≠ 0) {s : Nat} (hs : s < 4096) {e : Pl} (he : e ∈ far K L s) : Sub (K e) s ∧ mosP K L s ≤ mosP K L (offN s (K e)) + 1 := by
  have hle := offN_le s (K e)
  have hf := far_fit hK L s hs
  refine ⟨hf.sub e he, ?_⟩
  obtain ⟨a, b, hab⟩ := List.append_of_mem he
  have hm : ∀ x ∈ a ++ b, x ∈ L := fun x hx => (far_sub L s).subset (by
    rw [hab]
    rcases List.mem_append.1 hx with h | h
    · exact List.mem_append_left _ h
    exact List.mem_append_right _ (List.mem_cons_of_mem _ h))
  rw [hab] at hf
  have f2 := ((fit_cons hK hs).1 (hf.perm List.perm_middle)).2
  have := far_all hK L (offN s (K e)) (a ++ b) (by omega) h0 hm f2
  rw [mosP, mosP, hab]
  simp only [List.length_append, List.length_cons] at this ⊢
  omega
/-- None of these is in any longest choice. -/
def Out (K : Pl → Nat) (L : List Pl) (A : List Pl) (s : Nat) : Prop := ∀ q ∈ A, Sub (K q) s → mosP K L (offN s (K q)) + 1 < mosP K L s
theorem far_rest (hK : ∀ e, K e < 4096) (h0 : ∀ e ∈ L, K e ≠ 0) {s : Nat} (hs : s < 4096) {A B : List Pl} (hL : L = A ++ B) (ho : Out K L A s) : (far K B s).length = mosP K L s := by
  have hB : ∀ e ∈ B, e ∈ L := fun e he => by rw [hL]; exact List.mem_append_right _ he
  apply Nat.le_antisymm
  · exact far_all hK L s _ hs h0 (fun e he => hB e ((far_sub B s).subset he)) (far_fit hK B s hs)
  refine far_all hK B s _ hs (fun e he => h0 e (hB e he)) (fun e he => ?_) (far_fit hK L s hs)
  have h1 := (far_sub L s).subset he
  rw [hL] at h1
  rcases List.mem_append.1 h1 with h2 | h2
  · obtain ⟨h3, h4⟩ := mos_mem hK h0 hs he
    have := ho e h2 h3
    omega
  exact h2
theorem out_take (hK : ∀ e, K e < 4096) (h0 : ∀ e ∈ L, K e ≠ 0) {s : Nat} (hs : s < 4096) {A : List Pl} {p : Pl} (hA : ∀ e ∈ A, e ∈ L) (hp : p ∈ L) (ho : Out K L A s) (hsub : Sub (K p) s) (heq : mosP K L (offN s (K p)) + 1 = mosP K L s) : Out K L (A ++ [p]) (offN s (K p)) := by
  intro q hq hqs
  have hle := offN_le s (K p)
  have hle2 := offN_le s (K q)
  obtain ⟨h1, h2⟩ := (sub_off (hK p) hs).1 hqs
  rcases List.mem_append.1 hq with h3 | h3
  · have h4 := ho q h3 h1
    have h5 := mos_step hK h0 (show offN s (K q) < 4096 by omega) hp ((sub_off (hK q) hs).2 ⟨hsub, h2.symm⟩)
    rw [off_off hs (hK q) (hK p)] at h5
    omega
  rw [List.mem_singleton] at h3
  subst h3
  exact absurd h2 (not_dis (h0 q hp))
theorem far_take (hK : ∀ e, K e < 4096) (h0 : ∀ e ∈ L, K e ≠ 0) {s : Nat} (hs : s < 4096) {A B : List Pl} {p : Pl} (hL : L = A ++ p :: B) (ho : Out K L A s) (hsub : Sub (K p) s) (heq : mosP K L (offN s (K p)) + 1 = mosP K L s) : far K (p :: B) s = p :: far K B (offN s (K p)) := by
  have hle := offN_le s (K p)
  have hA : ∀ e ∈ A, e ∈ L := fun e he => by rw [hL]; exact List.mem_append_left _ he
  have hB : ∀ e ∈ B, e ∈ L := fun e he => by rw [hL]; exact List.mem_append_right _ (List.mem_cons_of_mem _ he)
  have hp : p ∈ L := by rw [hL]; exact List.mem_append_right _ List.mem_cons_self
  have h1 := far_rest hK h0 (show offN s (K p) < 4096 by omega) (A := A ++ [p]) (B := B) (by rw [hL, List.append_assoc]; rfl) (out_take hK h0 hs hA hp ho hsub heq)
  have h2 := far_all hK L s _ hs h0 (fun e he => hB e ((far_sub B s).subset he)) (far_fit hK B s hs)
  rw [far, if_pos ((off_iff (hK p) hs).2 hsub), if_pos]
  rw [h1, heq]; exact h2
theorem out_leave (hK : ∀ e, K e < 4096) (h0 : ∀ e ∈ L, K e ≠ 0) {s : Nat} (hs : s < 4096) {A : List Pl} {p : Pl} (hp : p ∈ L) (ho : Out K L A s) (hne : Sub (K p) s → mosP K L (offN s (K p)) + 1 ≠ mosP K L s) : Out K L (A ++ [p]) s := by
  intro q hq hqs
  rcases List.mem_append.1 hq with h3 | h3
  · exact ho q h3 hqs
  rw [List.mem_singleton] at h3
  subst h3
  have := mos_step hK h0 hs hp hqs
  have := hne hqs
  omega
theorem far_leave (hK : ∀ e, K e < 4096) (h0 : ∀ e ∈ L, K e ≠ 0) {s : Nat} (hs : s < 4096) {A B : List Pl} {p : Pl} (hL : L = A ++ p :: B) (ho : Out K L A s) (hne : Sub (K p) s → mosP K L (offN s (K p)) + 1 ≠ mosP K L s) : far K (p :: B) s = far K B s := by
  have hle := offN_le s (K p)
  have hB : ∀ e ∈ B, e ∈ L := fun e he => by rw [hL]; exact List.mem_append_right _ (List.mem_cons_of_mem _ he)
  have hp : p ∈ L := by rw [hL]; exact List.mem_append_right _ List.mem_cons_self
  rw [far]
  split
  · rename_i h
    have hsub := (off_iff (hK p) hs).1 h
    have h1 := far_rest hK h0 hs (A := A ++ [p]) (B := B) (by rw [hL, List.append_assoc]; rfl) (out_leave hK h0 hs hp ho hne)
    have h2 := far_all hK L (offN s (K p)) _ (by omega) h0 (fun e he => hB e ((far_sub B _).subset he)) (far_fit hK B _ (by omega))
    have h3 := mos_step hK h0 hs hp hsub
    have h4 := hne hsub
    rw [if_neg]
    rw [h1]
    have : (far K B (offN s (K p))).length ≤ mosP K L (offN s (K p)) := h2
    omega
  rfl
/-- The program's number. -/
theorem best_mos {ks : List Nat} (hK : ∀ e, K e < 4096) (h0 : ∀ e ∈ L, K e ≠ 0) (hks : ∀ x, x ∈ ks ↔ ∃ e ∈ L, x = K e) : ∀ (n s : Nat), s < n → s < 4096 → best ks s = mosP K L s
  | 0, _, h, _ => by omega
  | n + 1, s, hn, hs => by
    have hok : Kok ks := fun k hk => by
      obtain ⟨e, he, rfl⟩ := (hks k).1 hk
      exact ⟨h0 e he, hK e⟩
    rw [best_eq hok hs, bestI, List.take_length]
    have hin : ∀ k ∈ ks, offN k s = 0 → best ks (offN s k) = mosP K L (offN s k) ∧ 1 + mosP K L (offN s k) ≤ mosP K L s := fun k hk h => by
      obtain ⟨e, he, rfl⟩ := (hks k).1 hk
      have h1 := off_less hs (hK e) (h0 e he) h
      refine ⟨best_mos hK h0 hks n _ (by omega) (by omega), ?_⟩
      have := mos_step hK h0 hs he ((off_iff (hK e) hs).1 h)
      omega
    have hup : ∀ (l : List Nat) (b : Nat), (∀ k ∈ l, k ∈ ks) → b ≤ mosP K L s → b ≤ l.foldl (fun b k => if offN k s = 0 then max b (1 + best ks (offN s k)) else b) b ∧ l.foldl (fun b k => if offN k s = 0 then max b (1 + best ks (offN s k)) else b) b ≤ mosP K L s ∧ ∀ k ∈ l, offN k s = 0 → 1 + mosP K L (offN s k) ≤ l.foldl (fun b k => if offN k s = 0 then max b (1 + best ks (offN s k)) else b) b := fun l => by
      induction l with
      | nil => intro b _ hb; exact ⟨Nat.le_refl _, hb, fun k hk => by cases hk⟩
      | cons k l ih =>
        intro b hl hb
        rw [List.foldl_cons]
        have hk := hl k List.mem_cons_self
        by_cases h : offN k s = 0
        · obtain ⟨g1, g2⟩ := hin k hk h
          rw [if_pos h, g1]
          obtain ⟨i1, i2, i3⟩ := ih (max b (1 + mosP K L (offN s k))) (fun x hx => hl x (List.mem_cons_of_mem _ hx)) (Nat.max_le.2 ⟨hb, g2⟩)
          have m1 := Nat.le_max_left b (1 + mosP K L (offN s k))
          have m2 := Nat.le_max_right b (1 + mosP K L (offN s k))
          refine ⟨by omega, i2, fun x hx hx0 => ?_⟩
          rcases List.mem_cons.1 hx with rfl | hx
          · omega
          exact i3 x hx hx0
        rw [if_neg h]
        obtain ⟨i1, i2, i3⟩ := ih b (fun x hx => hl x (List.mem_cons_of_mem _ hx)) hb
        refine ⟨i1, i2, fun x hx hx0 => ?_⟩
        rcases List.mem_cons.1 hx with rfl | hx
        · exact absurd hx0 h
        exact i3 x hx hx0
    obtain ⟨_, u2, u3⟩ := hup ks 0 (fun _ h => h) (Nat.zero_le _)
    refine Nat.le_antisymm u2 ?_
    cases hf : far K L s with
    | nil => rw [mosP, hf]; exact Nat.zero_le _
    | cons e t =>
      have he : e ∈ far K L s := by rw [hf]; exact List.mem_cons_self
      obtain ⟨h3, h4⟩ := mos_mem hK h0 hs he
      have := u3 (K e) ((hks _).2 ⟨e, (far_sub L s).subset he, rfl⟩) ((off_iff (hK e) hs).2 h3)
      omega
end
/-! The program's choice -/
def atE (f : Fd) (e : Pl) : Nat := atN f e.1 e.2
theorem atE_lt {f : Fd} (hv : f.valid = true) (e : Pl) : atE f e < 4096 := at_lt (by have := valid_num hv; omega) e.1 e.2
theorem atE_pos {f : Fd} (hv : f.valid = true) {s : Nat} (h : listQ f s = true) : ∀ e ∈ plsL f, atE f e ≠ 0 := fun e he => (kinds_ok hv s h _ (kinds_mem.2 ⟨e, he, rfl⟩)).1
theorem ap_far {f : Fd} (hv : f.valid = true) {s0 : Nat} (hs0 : s0 < 4096) {s : Nat} (h : listQ f s = true) : ∀ k, k ≤ (plsL f).length → (apI f s0 k).z ++ far (atE f) ((plsL f).drop k) (apI f s0 k).s = far (atE f) (plsL f) s0 ∧ Out (atE f) (plsL f) ((plsL f).take k) (apI f s0 k).s
  | 0, _ => ⟨rfl, fun q hq => by cases hq⟩
  | k + 1, hk => by
    have hK := atE_lt hv
    have h0 := atE_pos hv h
    have hkl : k < (plsL f).length := by omega
    obtain ⟨i1, i2⟩ := ap_far hv hs0 h k (by omega)
    have he : (plsL f)[k]? = some (plsL f)[k] := List.getElem?_eq_getElem hkl
    have hd : (plsL f).drop k = (plsL f)[k] :: (plsL f).drop (k + 1) := List.drop_eq_getElem_cons hkl
    have ht : (plsL f).take (k + 1) = (plsL f).take k ++ [(plsL f)[k]] := by rw [List.take_add_one, he]; rfl
    have hL : plsL f = (plsL f).take k ++ (plsL f)[k] :: (plsL f).drop (k + 1) := by rw [← hd, List.take_append_drop]
    have hs : (apI f s0 k).s < 4096 := Nat.lt_of_le_of_lt (ap_ok (f := f) (s0 := s0) k).1 hs0
    have hmem : (plsL f)[k] ∈ plsL f := List.getElem_mem hkl
    have hb : ∀ x, x < 4096 → best (kindsL f) x = mosP (atE f) (plsL f) x := fun x hx => best_mos hK h0 (fun _ => kinds_mem) (x + 1) x (by omega) hx
    have hle := offN_le (apI f s0 k).s (atE f (plsL f)[k])
    rw [ap_next he, ht]
    rw [hd] at i1
    unfold apF
    split
    · rename_i hsub
      have hsub2 : Sub (atE f (plsL f)[k]) (apI f s0 k).s := (off_iff (hK _) hs).1 hsub
      split
      · rename_i heq
        have heq2 : mosP (atE f) (plsL f) (offN (apI f s0 k).s (atE f (plsL f)[k])) + 1 = mosP (atE f) (plsL f) (apI f s0 k).s := by
          rw [← hb _ (by omega), ← hb _ hs]; exact heq
        rw [far_take hK h0 hs hL i2 hsub2 heq2] at i1
        exact ⟨by rw [← i1, List.append_assoc]; rfl, out_take hK h0 hs (fun e he => List.mem_of_mem_take he) hmem i2 hsub2 heq2⟩
      rename_i hne
      have hne2 : Sub (atE f (plsL f)[k]) (apI f s0 k).s → mosP (atE f) (plsL f) (offN (apI f s0 k).s (atE f (plsL f)[k])) + 1 ≠ mosP (atE f) (plsL f) (apI f s0 k).s := fun _ => by
        rw [← hb _ (by omega), ← hb _ hs]; exact hne
      rw [far_leave hK h0 hs hL i2 hne2] at i1
      exact ⟨i1, out_leave hK h0 hs hmem i2 hne2⟩
    rename_i hsub
    have hne2 : Sub (atE f (plsL f)[k]) (apI f s0 k).s → mosP (atE f) (plsL f) (offN (apI f s0 k).s (atE f (plsL f)[k])) + 1 ≠ mosP (atE f) (plsL f) (apI f s0 k).s := fun hq => absurd ((off_iff (hK _) hs).2 hq) hsub
    rw [far_leave hK h0 hs hL i2 hne2] at i1
    exact ⟨i1, out_leave hK h0 hs hmem i2 hne2⟩
theorem ap_is {f : Fd} (hv : f.valid = true) {s0 : Nat} (hs0 : s0 < 4096) {s : Nat} (h : listQ f s = true) : apL f s0 = far (atE f) (plsL f) s0 := by
  have := (ap_far hv hs0 h _ (Nat.le_refl _)).1
  rw [List.drop_length] at this
  rw [apL, ← this]
  exact (List.append_nil _).symm
theorem row_pair (f : Fd) (x : Int) : ∀ j, (rowL f x j).Pairwise bef
  | 0 => List.Pairwise.nil
  | j + 1 => by
    rw [rowL]
    refine List.pairwise_append.2 ⟨row_pair f x j, List.pairwise_singleton _ _, fun a ha b hb => ?_⟩
    rw [List.mem_singleton] at hb; subst hb
    have := row_mem ha
    exact .inr ⟨by simp only; omega, by simp only; omega⟩
theorem plc_pair (f : Fd) : ∀ i, (plcL f i).Pairwise bef
  | 0 => List.Pairwise.nil
  | i + 1 => by
    rw [plcL]
    refine List.pairwise_append.2 ⟨plc_pair f i, row_pair f _ _, fun a ha b hb => ?_⟩
    have h1 := plc_mem ha
    have h2 := row_mem hb
    exact .inl (by omega)
theorem pls_pair (f : Fd) : (plsL f).Pairwise bef := plc_pair f _
end Go.Proofs.Ytabeeaiilanmjaa

/- The document: has some plate that is of use two places? -/
namespace Go.Proofs.Ytabeeaiilanmjaa
open Go.Gh
set_option maxRecDepth 100000
set_option maxHeartbeats 4000000
structure kWe1 (c : Prop) : Prop where
  h : c := by (first | exact True.intro | omega | (simp only [inI]; omega) | (simp [P.size, pS, all_int, allOne_p, goods_p, allOne, goods, good, G.one, P.one, P.cells] <;> first | omega | assumption | simp_all))
def togB (f : Fd) (a b : Pl) (p : Sk) : Bool := (((useQ f p && inB a.1 p.el p.eh) && inB a.2 p.nl p.nh) && inB b.1 p.el p.eh) && inB b.2 p.nl p.nh
def togQ (f : Fd) (a b : Pl) : Bool := f.ps.any (togB f a b)
theorem tog_next {f : Fd} {a b : Pl} {k : Nat} {p : Sk} (hp : f.ps[k]? = some p) (h : (f.ps.take k).any (togB f a b) = false) (h2 : togB f a b p = false) : (f.ps.take (k + 1)).any (togB f a b) = false := by
  rw [List.take_add_one, hp, Option.toList_some, List.any_append, h, List.any_cons, h2]; rfl
theorem tog_yes {f : Fd} {a b : Pl} {k : Nat} {p : Sk} (hp : f.ps[k]? = some p) (h2 : togB f a b p = true) : togQ f a b = true := List.any_eq_true.2 ⟨p, List.mem_of_getElem? hp, h2⟩
theorem atE_bit {f : Fd} {e : Pl} {k : Nat} : (atE f e).testBit k = true ↔ ∃ p, f.ps[k]? = some p ∧ useQ f p = true ∧ hasQ p e.1 e.2 = true := by
  rw [atE, atN, atK, setN_bit, Bool.and_eq_true, decide_eq_true_eq, plQ]
  constructor
  · rintro ⟨hk, h⟩
    rw [List.getElem?_eq_getElem hk] at h
    simp only [Bool.and_eq_true] at h
    exact ⟨_, List.getElem?_eq_getElem hk, h⟩
  rintro ⟨p, hp, h1, h2⟩
  refine ⟨(List.getElem?_eq_some_iff.1 hp).1, ?_⟩
  rw [hp]
  simp only [h1, h2, Bool.and_self]
theorem togB_iff {f : Fd} {a b : Pl} {p : Sk} : togB f a b p = true ↔ useQ f p = true ∧ hasQ p a.1 a.2 = true ∧ hasQ p b.1 b.2 = true := by
  simp only [togB, hasQ, Bool.and_eq_true, and_assoc]
theorem tog_dis {f : Fd} {a b : Pl} : togQ f a b = false ↔ Dis (atE f a) (atE f b) := by
  constructor
  · intro h i hi
    obtain ⟨p, hp, h1, h2⟩ := atE_bit.1 hi.1
    obtain ⟨q, hq, h3, h4⟩ := atE_bit.1 hi.2
    rw [hp] at hq; cases hq
    rw [tog_yes hp (togB_iff.2 ⟨h1, h2, h4⟩)] at h
    cases h
  intro h
  cases e : togQ f a b with
  | false => rfl
  | true =>
    obtain ⟨p, hp, h1⟩ := List.any_eq_true.1 e
    obtain ⟨k, hk, rfl⟩ := List.getElem_of_mem hp
    obtain ⟨h2, h3, h4⟩ := togB_iff.1 h1
    exact absurd ⟨atE_bit.2 ⟨_, List.getElem?_eq_getElem hk, h2, h3⟩, atE_bit.2 ⟨_, List.getElem?_eq_getElem hk, h2, h4⟩⟩ (h k)
theorem ent36 : Enters Try.prog 36 := Enters.mk Try.func36 (by kernel_rfl) rfl
theorem r_tog (f : Fd) (hl : f.ps.length ≤ 1048576) (a b : Pl) : PSpec Try.prog 36 [.agg [.list (f.ps.map pS), .int .i64 f.el, .int .i64 f.eh, .int .i64 f.nl, .int .i64 f.nh, .int .i64 f.dl, .int .i64 f.dh, .int .i64 f.dep, .int .i64 f.tm, .int .i64 f.gp], .agg [.int .i64 a.1, .int .i64 a.2], .agg [.int .i64 b.1, .int .i64 b.2]] (.ok (.bool (togQ f a b))) := by
  refine pspec_of Try.func36 (rfl : Try.f36.body = some _) rfl ?_
  intro E A C hN hL
  replace hN : C.N = 52 := hN
  simp only [Gh.num, List.map_cons, List.map_nil, Nat.reduceAdd]
  have hpS : ∀ p : Sk, pS p = P.agg [.int .i64 p.el, .int .i64 p.eh, .int .i64 p.nl, .int .i64 p.nh, .int .i64 p.day, .int .i64 p.dep] := fun _ => rfl
  repeat refine gwp_seq ?_
  refine gwp_region ?_
  refine n1 130 false (hc := kWe1.h {}) (k := ?_)
  refine n1 140 false (hc := kWe1.h {}) (k := ?_)
  refine n1 150 false (hc := kWe1.h {}) (k := ?_)
  refine v0 (k := ?_)
  refine nil0 ?_
  refine cl [3, 4, 5] (k := ?_)
  repeat refine gwp_seq ?_
  refine fz 130 10 [.k, .k, .k, .k, .k, .k, .k, .k, .k, .k] (k := ?_)
  refine gwp_region ?_
  refine v0 (k := ?_)
  refine nil0 ?_
  refine cl [3, 4, 5, 7] (k := ?_)
  repeat refine gwp_seq ?_
  refine gwp_block ?_
  repeat refine gwp_seq ?_
  refine gc_loop (fun mz σ => ∃ k : Nat, (k ≤ f.ps.length) ∧ ((f.ps.take k).any (togB f a b) = false) ∧ mz = f.ps.length - k ∧ σ = (sg [(3, .ref 130 0), (4, .ref 140 0), (5, .ref 150 0), (7, .p (.int .i64 (k : Nat)))] [(130, .cells [.p (.list (f.ps.map pS)), .p (.int .i64 f.el), .p (.int .i64 f.eh), .p (.int .i64 f.nl), .p (.int .i64 f.nh), .p (.int .i64 f.dl), .p (.int .i64 f.dh), .p (.int .i64 f.dep), .p (.int .i64 f.tm), .p (.int .i64 f.gp)] 10), (140, .cells [.p (.int .i64 a.1), .p (.int .i64 a.2)] 0), (150, .cells [.p (.int .i64 b.1), .p (.int .i64 b.2)] 0)] A [] : Sg E)) ?_ (fun mz σ hI => ?_)
  · refine lbeg [3, 4, 5, 7] (hV := ?_)
    exact ⟨_, 0, by omega, rfl, rfl, rfl⟩
  obtain ⟨k, hk, hq, hnn, rfl⟩ := hI
  repeat refine gwp_seq ?_
  refine gwp_region ?_
  refine v0 (k := ?_)
  refine v0 (k := ?_)
  refine v0 (k := ?_)
  refine v0 (k := ?_)
  refine v0 (k := ?_)
  refine nil0 ?_
  repeat refine gwp_seq ?_
  refine cB (k1 := fun hb1 => ?_) (k0 := fun hb1 => ?_)
  · replace hb1 := hB.h {} hb1
    try rw [eqI] at hb1
    repeat refine gwp_seq ?_
    refine gwp_skip ?_
    refine cl [3, 4, 5, 7] (k := ?_)
    repeat refine gwp_seq ?_
    refine gwp_block ?_
    repeat refine gwp_seq ?_
    obtain ⟨p, hp⟩ := getE (l := f.ps) (k := k) (by omega)
    refine gwp_region ?_
    refine v0 (k := ?_)
    refine v0 (k := ?_)
    refine v0 (k := ?_)
    refine v1 (hc := kWe1.h {}) (k := ?_)
    refine v0 (k := ?_)
    refine n1 180 false (hc := kWe1.h {}) (k := ?_)
    refine s1 (hc := kWe1.h {}) (k := ?_)
    refine nil0 ?_
    refine cl [3, 4, 5, 7, 8] (k := ?_)
    repeat refine gwp_seq ?_
    refine gwp_region ?_
    refine v0 (k := ?_)
    refine v0 (k := ?_)
    refine pc0 (spec := r_of f p) (hent := ent41) (k := ?_)
    refine v0 (k := ?_)
    refine b0 (k1 := fun hb2 => ?_) (k0 := fun hb2 => ?_)
    · replace hb2 := hB.h {} hb2
      try rw [eqI] at hb2
      refine w0 (k := ?_)
      refine w0 (k := ?_)
      refine w1 (hc := kWe1.h {}) (k := ?_)
      refine w0 (k := ?_)
      refine pcw (spec := r_in p.el p.eh a.1) (hent := ent65) (k := ?_)
      refine v0 (k := ?_)
      refine v0 (k := ?_)
      refine b0 (k1 := fun hb3 => ?_) (k0 := fun hb3 => ?_)
      · replace hb3 := hB.h {} hb3
        try rw [eqI] at hb3
        refine w0 (k := ?_)
        refine w0 (k := ?_)
        refine w1 (hc := kWe1.h {}) (k := ?_)
        refine w0 (k := ?_)
        refine pcw (spec := r_in p.nl p.nh a.2) (hent := ent65) (k := ?_)
        refine v0 (k := ?_)
        refine v0 (k := ?_)
        refine b0 (k1 := fun hb4 => ?_) (k0 := fun hb4 => ?_)
        · replace hb4 := hB.h {} hb4
          try rw [eqI] at hb4
          refine w0 (k := ?_)
          refine w0 (k := ?_)
          refine w1 (hc := kWe1.h {}) (k := ?_)
          refine w0 (k := ?_)
          refine pcw (spec := r_in p.el p.eh b.1) (hent := ent65) (k := ?_)
          refine v0 (k := ?_)
          refine v0 (k := ?_)
          refine b0 (k1 := fun hb5 => ?_) (k0 := fun hb5 => ?_)
          · replace hb5 := hB.h {} hb5
            try rw [eqI] at hb5
            refine w0 (k := ?_)
            refine w0 (k := ?_)
            refine w1 (hc := kWe1.h {}) (k := ?_)
            refine w0 (k := ?_)
            refine pcw (spec := r_in p.nl p.nh b.2) (hent := ent65) (k := ?_)
            refine v0 (k := ?_)
            refine nil0 ?_
            repeat refine gwp_seq ?_
            refine cB (k1 := fun hb6 => ?_) (k0 := fun hb6 => ?_)
            · replace hb6 := hB.h {} hb6
              try rw [eqI] at hb6
              repeat refine gwp_seq ?_
              refine gwp_region ?_
              refine v0 (k := ?_)
              refine nil0 ?_
              repeat refine gwp_seq ?_
              refine gwp_ret ?_
              repeat (first | refine gthen_ret ?_ | refine gblock_ret ?_ | refine gnoGoto_ret ?_)
              refine fin_ret ?_
              refine fp (hR := ?_)
              first
              | (rw [tog_yes hp (by simp_all [togB]; done)]; rfl)
              | (obtain rfl : k = f.ps.length := by omega
                 rw [List.take_length] at hq
                 rw [show togQ f a b = false from hq]; rfl)
            replace hb6 := hB.h {} hb6
            try rw [eqI] at hb6
            repeat refine gwp_seq ?_
            refine gwp_skip ?_
            refine cl [3, 4, 5, 7] (k := ?_)
            repeat refine gwp_seq ?_
            refine gwp_region ?_
            refine v0 (k := ?_)
            refine v1 (hc := kWe1.h {}) (k := ?_)
            refine v0 (k := ?_)
            refine nil0 ?_
            refine lend [3, 4, 5, 7] (h := ?_) (hV := ?_) (n' := f.ps.length - (k + 1))
            · omega
            exact ⟨k + 1, by omega, tog_next hp hq (by simp_all [togB]; done), rfl, rfl⟩
          replace hb5 := hB.h {} hb5
          try rw [eqI] at hb5
          refine x0 (k := ?_)
          refine x0 (k := ?_)
          refine x0 (k := ?_)
          refine x0 (k := ?_)
          refine x0 (k := ?_)
          refine v0 (k := ?_)
          refine nil0 ?_
          repeat refine gwp_seq ?_
          refine cF (k := ?_)
          repeat refine gwp_seq ?_
          refine gwp_skip ?_
          refine cl [3, 4, 5, 7] (k := ?_)
          repeat refine gwp_seq ?_
          refine gwp_region ?_
          refine v0 (k := ?_)
          refine v1 (hc := kWe1.h {}) (k := ?_)
          refine v0 (k := ?_)
          refine nil0 ?_
          refine lend [3, 4, 5, 7] (h := ?_) (hV := ?_) (n' := f.ps.length - (k + 1))
          · omega
          exact ⟨k + 1, by omega, tog_next hp hq (by simp_all [togB]; done), rfl, rfl⟩
        replace hb4 := hB.h {} hb4
        try rw [eqI] at hb4
        refine x0 (k := ?_)
        refine x0 (k := ?_)
        refine x0 (k := ?_)
        refine x0 (k := ?_)
        refine x0 (k := ?_)
        refine v0 (k := ?_)
        refine v0 (k := ?_)
        refine x0 (k := ?_)
        refine x0 (k := ?_)
        refine x0 (k := ?_)
        refine x0 (k := ?_)
        refine x0 (k := ?_)
        refine v0 (k := ?_)
        refine nil0 ?_
        repeat refine gwp_seq ?_
        refine cF (k := ?_)
        repeat refine gwp_seq ?_
        refine gwp_skip ?_
        refine cl [3, 4, 5, 7] (k := ?_)
        repeat refine gwp_seq ?_
        refine gwp_region ?_
        refine v0 (k := ?_)
        refine v1 (hc := kWe1.h {}) (k := ?_)
        refine v0 (k := ?_)
        refine nil0 ?_
        refine lend [3, 4, 5, 7] (h := ?_) (hV := ?_) (n' := f.ps.length - (k + 1))
        · omega
        exact ⟨k + 1, by omega, tog_next hp hq (by simp_all [togB]; done), rfl, rfl⟩
      replace hb3 := hB.h {} hb3
      try rw [eqI] at hb3
      refine x0 (k := ?_)
      refine x0 (k := ?_)
      refine x0 (k := ?_)
      refine x0 (k := ?_)
      refine x0 (k := ?_)
      refine v0 (k := ?_)
      refine v0 (k := ?_)
      refine x0 (k := ?_)
      refine x0 (k := ?_)
      refine x0 (k := ?_)
      refine x0 (k := ?_)
      refine x0 (k := ?_)
      refine v0 (k := ?_)
      refine v0 (k := ?_)
      refine x0 (k := ?_)
      refine x0 (k := ?_)
      refine x0 (k := ?_)
      refine x0 (k := ?_)
      refine x0 (k := ?_)
      refine v0 (k := ?_)
      refine nil0 ?_
      repeat refine gwp_seq ?_
      refine cF (k := ?_)
      repeat refine gwp_seq ?_
      refine gwp_skip ?_
      refine cl [3, 4, 5, 7] (k := ?_)
      repeat refine gwp_seq ?_
      refine gwp_region ?_
      refine v0 (k := ?_)
      refine v1 (hc := kWe1.h {}) (k := ?_)
      refine v0 (k := ?_)
      refine nil0 ?_
      refine lend [3, 4, 5, 7] (h := ?_) (hV := ?_) (n' := f.ps.length - (k + 1))
      · omega
      exact ⟨k + 1, by omega, tog_next hp hq (by simp_all [togB]; done), rfl, rfl⟩
    replace hb2 := hB.h {} hb2
    try rw [eqI] at hb2
    refine x0 (k := ?_)
    refine x0 (k := ?_)
    refine x0 (k := ?_)
    refine x0 (k := ?_)
    refine x0 (k := ?_)
    refine v0 (k := ?_)
    refine v0 (k := ?_)
    refine x0 (k := ?_)
    refine x0 (k := ?_)
    refine x0 (k := ?_)
    refine x0 (k := ?_)
    refine x0 (k := ?_)
    refine v0 (k := ?_)
    refine v0 (k := ?_)
    refine x0 (k := ?_)
    refine x0 (k := ?_)
    refine x0 (k := ?_)
    refine x0 (k := ?_)
    refine x0 (k := ?_)
    refine v0 (k := ?_)
    refine v0 (k := ?_)
    refine x0 (k := ?_)
    refine x0 (k := ?_)
    refine x0 (k := ?_)
    refine x0 (k := ?_)
    refine x0 (k := ?_)
    refine v0 (k := ?_)
    refine nil0 ?_
    repeat refine gwp_seq ?_
    refine cF (k := ?_)
    repeat refine gwp_seq ?_
    refine gwp_skip ?_
    refine cl [3, 4, 5, 7] (k := ?_)
    repeat refine gwp_seq ?_
    refine gwp_region ?_
    refine v0 (k := ?_)
    refine v1 (hc := kWe1.h {}) (k := ?_)
    refine v0 (k := ?_)
    refine nil0 ?_
    refine lend [3, 4, 5, 7] (h := ?_) (hV := ?_) (n' := f.ps.length - (k + 1))
    · omega
    exact ⟨k + 1, by omega, tog_next hp hq (by simp_all [togB]; done), rfl, rfl⟩
  replace hb1 := hB.h {} hb1
  try rw [eqI] at hb1
  repeat refine gwp_seq ?_
  refine gwp_exit ?_
  repeat (first | refine gthen_exit ?_ | refine gnoGoto_exit ?_ | refine gblock_here ?_ | refine gblock_out rfl ?_)
  refine cl [] (k := ?_)
  repeat refine gwp_seq ?_
  refine gwp_region ?_
  refine v0 (k := ?_)
  refine nil0 ?_
  repeat refine gwp_seq ?_
  refine gwp_ret ?_
  repeat (first | refine gthen_ret ?_ | refine gblock_ret ?_ | refine gnoGoto_ret ?_)
  refine fin_ret ?_
  refine fp (hR := ?_)
  first
  | (rw [tog_yes hp (by simp_all [togB]; done)]; rfl)
  | (obtain rfl : k = f.ps.length := by omega
     rw [List.take_length] at hq
     rw [show togQ f a b = false from hq]; rfl)
end Go.Proofs.Ytabeeaiilanmjaa

/- Places that are apart need plates of their own: no list is shorter. -/
namespace Go.Proofs.Ytabeeaiilanmjaa
open Go.Gh
set_option maxRecDepth 100000
theorem pop_two : ∀ (n a b c : Nat), a < 2 ^ n → b < 2 ^ n → c < 2 ^ n → n ≤ 12 → Sub a c → Sub b c → Dis a b → pop a + pop b ≤ pop c
  | 0, a, b, c, h1, h2, h3, _, _, _, _ => by
    obtain rfl : a = 0 := by omega
    obtain rfl : b = 0 := by omega
    rw [pop_zero]; exact Nat.zero_le _
  | n + 1, a, b, c, h1, h2, h3, hn, s1, s2, d => by
    have hp : 2 ^ (n + 1) ≤ 2 ^ 12 := Nat.pow_le_pow_right (by omega) hn
    have e1 := pop_half (m := a) (by omega)
    have e2 := pop_half (m := b) (by omega)
    have e3 := pop_half (m := c) (by omega)
    rw [Nat.pow_succ] at h1 h2 h3
    have ih := pop_two n (a / 2) (b / 2) (c / 2) (by omega) (by omega) (by omega) (by omega) s1.half s2.half (fun i hi => by
      rw [half_bit, half_bit] at hi; exact d _ hi)
    have hb : a % 2 + b % 2 ≤ c % 2 := by
      rw [mod_bit a, mod_bit b, mod_bit c]
      by_cases h0 : a.testBit 0 = true
      · have hb0 : b.testBit 0 ≠ true := fun h => d 0 ⟨h0, h⟩
        rw [if_pos h0, if_neg hb0, if_pos (s1 0 h0)]; exact Nat.le_refl _
      rw [if_neg h0]
      by_cases hb0 : b.testBit 0 = true
      · rw [if_pos hb0, if_pos (s2 0 hb0)]; exact Nat.le_refl _
      rw [if_neg hb0]; exact Nat.zero_le _
    omega
theorem pop_one : ∀ k, k < 12 → pop (2 ^ k) = 1 := by decide +kernel
theorem pop_mono {n a c : Nat} (h1 : a < 2 ^ n) (h2 : c < 2 ^ n) (hn : n ≤ 12) (h : Sub a c) : pop a ≤ pop c := by
  rcases pop_sub n a c h1 h2 hn h with h3 | h3
  · omega
  rw [h3]; exact Nat.le_refl _
theorem low_bit (s k i : Nat) : (s &&& allS k).testBit i = (s.testBit i && decide (i < k)) := by rw [Nat.testBit_and, all_bit]
theorem days_pop {ps : List Sk} {s : Nat} : ∀ k, k ≤ 12 → (daysN ps s k).length ≤ pop (s &&& allS k)
  | 0, _ => Nat.zero_le _
  | k + 1, hk => by
    have ih := days_pop (ps := ps) (s := s) k (by omega)
    have hlt : ∀ m, m ≤ 12 → s &&& allS m < 2 ^ 12 := fun m hm => Nat.lt_of_le_of_lt Nat.and_le_right (allS_lt hm)
    have hp : 2 ^ k < 2 ^ 12 := Nat.pow_lt_pow_right (by omega) (by omega)
    have hsub : Sub (s &&& allS k) (s &&& allS (k + 1)) := fun i hi => by
      rw [low_bit, Bool.and_eq_true, decide_eq_true_eq] at hi
      rw [low_bit, hi.1, decide_eq_true (by omega)]; rfl
    rw [daysN]
    split
    · split
      · rename_i h
        have h2 := pop_two 12 (s &&& allS k) (2 ^ k) (s &&& allS (k + 1)) (hlt k (by omega)) hp (hlt _ hk) (Nat.le_refl _) hsub (fun i hi => by
          rw [Nat.testBit_two_pow, decide_eq_true_eq] at hi
          subst hi
          rw [low_bit, h, decide_eq_true (by omega)]; rfl) (fun i hi => by
          rw [low_bit, Nat.testBit_two_pow, Bool.and_eq_true, decide_eq_true_eq, decide_eq_true_eq] at hi
          omega)
        rw [pop_one k (by omega)] at h2
        rw [List.length_append, List.length_cons, List.length_nil]
        omega
      exact Nat.le_trans ih (pop_mono (hlt k (by omega)) (hlt _ hk) (Nat.le_refl _) hsub)
    exact Nat.le_trans ih (pop_mono (hlt k (by omega)) (hlt _ hk) (Nat.le_refl _) hsub)
theorem serv_pop {f : Fd} (hv : f.valid = true) {z : Nat} (hz : z < 4096) (h : servQ f z = true) : f.tm ≤ (pop z : Nat) := by
  have hn := valid_num hv
  rw [servQ, grd_most (by omega), decide_eq_true_eq] at h
  obtain ⟨t, h1, h2, h3⟩ := most_has f.gp (daysN f.ps z f.ps.length) [] List.Pairwise.nil
  have h4 := h1.length_le
  have h5 := days_pop (ps := f.ps) (s := z) f.ps.length (by omega)
  have h6 := pop_mono (n := 12) (show z &&& allS f.ps.length < 2 ^ 12 from Nat.lt_of_le_of_lt Nat.and_le_left hz) hz (Nat.le_refl _) (and_sub z _)
  rw [List.length_nil] at h3
  omega
theorem fit_pop {K : Pl → Nat} (hK : ∀ e, K e < 4096) {w : Nat} (hw : w < 4096) {c : Nat} : ∀ (t : List Pl) (s : Nat), s < 4096 → Fit K t s → (∀ e ∈ t, c ≤ pop (K e &&& w)) → c * t.length ≤ pop (s &&& w)
  | [], s, _, _, _ => by rw [List.length_nil, Nat.mul_zero]; exact Nat.zero_le _
  | p :: t, s, hs, hf, h => by
    obtain ⟨f1, f2⟩ := (fit_cons hK hs).1 hf
    have hle := offN_le s (K p)
    have ih := fit_pop hK hw t _ (by omega) f2 fun e he => h e (List.mem_cons_of_mem _ he)
    have hlt : ∀ x, x &&& w < 2 ^ 12 := fun x => Nat.lt_of_le_of_lt Nat.and_le_right hw
    have h1 := h p List.mem_cons_self
    have h2 := pop_two 12 (K p &&& w) (offN s (K p) &&& w) (s &&& w) (hlt _) (hlt _) (hlt _) (Nat.le_refl _) (fun i hi => by
      rw [Nat.testBit_and, Bool.and_eq_true] at hi
      rw [Nat.testBit_and, f1 i hi.1, hi.2]; rfl) (fun i hi => by
      rw [Nat.testBit_and, offN_bit hs (hK p), Bool.and_eq_true, Bool.and_eq_true] at hi
      rw [Nat.testBit_and, hi.1.1, hi.2]; rfl) (fun i hi => by
      rw [Nat.testBit_and, Nat.testBit_and, offN_bit hs (hK p), Bool.and_eq_true, Bool.and_eq_true, Bool.and_eq_true] at hi
      rw [hi.1.1] at hi; simp at hi)
    rw [List.length_cons, Nat.mul_add, Nat.mul_one]
    omega
/-- All places of the choice are apart, they are in order, and there is one. -/
theorem far_few {f : Fd} (hv : f.valid = true) {w : Nat} (hw : w < 2 ^ f.ps.length) (hl : listQ f w = true) : f.tm * (far (atE f) (plsL f) (allS f.ps.length)).length ≤ (pop w : Nat) := by
  have hn := valid_num hv
  have hp : 2 ^ f.ps.length ≤ 2 ^ 12 := Nat.pow_le_pow_right (by omega) (by omega)
  have ha := allS_lt (n := f.ps.length) (by omega)
  have h1 := fit_pop (K := atE f) (atE_lt hv) (show w < 4096 by omega) (c := f.tm.toNat) _ _ ha (far_fit (atE_lt hv) (plsL f) _ ha) fun e he => by
    have h2 := List.all_eq_true.1 hl e ((far_sub _ _).subset he)
    have h3 := serv_pop hv (show atN f e.1 e.2 &&& w < 4096 from Nat.lt_of_le_of_lt Nat.and_le_right (by omega)) h2
    have : atE f e = atN f e.1 e.2 := rfl
    rw [this]
    omega
  have h2 := pop_mono (n := 12) (show allS f.ps.length &&& w < 2 ^ 12 from Nat.lt_of_le_of_lt Nat.and_le_right (by omega)) (show w < 2 ^ 12 by omega) (Nat.le_refl _) (and_sub2 _ w)
  have h3 : ((f.tm.toNat * (far (atE f) (plsL f) (allS f.ps.length)).length : Nat) : Int) = f.tm * (far (atE f) (plsL f) (allS f.ps.length)).length := by
    rw [Int.natCast_mul, Int.toNat_of_nonneg (by omega)]
  omega
theorem at_all (f : Fd) (e : Pl) : Sub (atE f e) (allS f.ps.length) := all_sub (setN_lt2 _ _)
theorem far_some {f : Fd} (hv : f.valid = true) {w : Nat} (hl : listQ f w = true) : 1 ≤ (far (atE f) (plsL f) (allS f.ps.length)).length := by
  have hn := valid_num hv
  refine far_all (atE_lt hv) (plsL f) _ [(f.el, f.nl)] (allS_lt (by omega)) (atE_pos hv hl) (fun e he => ?_) ⟨fun e _ => at_all f e, List.pairwise_singleton _ _⟩
  rw [List.mem_singleton] at he
  subst he
  exact mem_pls (by omega) (by omega)
end Go.Proofs.Ytabeeaiilanmjaa

/- Other places, in order: one is taken if it is apart from those that are, and a number says so. -/
namespace Go.Proofs.Ytabeeaiilanmjaa
open Go.Gh
set_option maxRecDepth 100000
def skQ (bs : List Int) (t : Nat) : Bool := match bs[t % bs.length]? with | some b => decide (b.tmod 3 = 0) | none => false
def ownK (f : Fd) (bs : List Int) : Nat → List Pl
  | 0 => []
  | k + 1 => match (plsL f)[k]? with
    | some e => if skQ bs (k + 1) = true then ownK f bs k else if (ownK f bs k).any (fun q => togQ f e q) = true then ownK f bs k else ownK f bs k ++ [e]
    | none => ownK f bs k
theorem ownK_skip {f : Fd} {bs : List Int} {k : Nat} {e : Pl} (he : (plsL f)[k]? = some e) (h : skQ bs (k + 1) = true) : ownK f bs (k + 1) = ownK f bs k := by rw [ownK, he]; exact if_pos h
theorem ownK_tog {f : Fd} {bs : List Int} {k m : Nat} {e q : Pl} (he : (plsL f)[k]? = some e) (hq : (ownK f bs k)[m]? = some q) (h : togQ f e q = true) : ownK f bs (k + 1) = ownK f bs k := by
  rw [ownK, he]
  simp only []
  split
  · rfl
  rw [if_pos (List.any_eq_true.2 ⟨q, List.mem_of_getElem? hq, h⟩)]
theorem ownK_take {f : Fd} {bs : List Int} {k : Nat} {e : Pl} (he : (plsL f)[k]? = some e) (h : skQ bs (k + 1) = false) (h2 : (ownK f bs k).any (fun q => togQ f e q) = false) : ownK f bs (k + 1) = ownK f bs k ++ [e] := by
  rw [ownK, he]
  simp only []
  rw [if_neg (by rw [h]; simp), if_neg (by rw [h2]; simp)]
theorem ownK_sub (f : Fd) (bs : List Int) : ∀ k, (ownK f bs k).Sublist ((plsL f).take k)
  | 0 => List.Sublist.refl _
  | k + 1 => by
    have ih := ownK_sub f bs k
    rw [ownK, List.take_add_one]
    cases he : (plsL f)[k]? with
    | none => simp only [Option.toList_none, List.append_nil]; exact ih
    | some e =>
      simp only [Option.toList_some]
      split
      · exact ih.trans (List.sublist_append_left _ _)
      split
      · exact ih.trans (List.sublist_append_left _ _)
      exact ih.append (List.Sublist.refl _)
theorem ownK_dis (f : Fd) (bs : List Int) : ∀ k, (ownK f bs k).Pairwise fun a b => Dis (atE f a) (atE f b)
  | 0 => List.Pairwise.nil
  | k + 1 => by
    have ih := ownK_dis f bs k
    rw [ownK]
    split
    · split
      · exact ih
      split
      · exact ih
      rename_i e _ _ h
      refine List.pairwise_append.2 ⟨ih, List.pairwise_singleton _ _, fun a ha b hb => ?_⟩
      rw [List.mem_singleton] at hb; subst hb
      refine (tog_dis.1 ?_).symm
      cases hq : togQ f b a with
      | false => rfl
      | true => exact absurd (List.any_eq_true.2 ⟨a, ha, hq⟩) h
    exact ih
theorem ownK_len {f : Fd} (hv : f.valid = true) (bs : List Int) (k : Nat) : (ownK f bs k).length ≤ 1089 := by
  have h1 := (ownK_sub f bs k).length_le
  have h2 := pls_len hv
  rw [List.length_take] at h1
  omega
/-- What is told of the places that are apart. -/
structure Apl (f : Fd) (w : Nat) (l : List Pl) : Prop where
  inn : ∀ e ∈ l, (f.el ≤ e.1 ∧ e.1 ≤ f.eh) ∧ f.nl ≤ e.2 ∧ e.2 ≤ f.nh
  ord : l.Pairwise bef
  dis : l.Pairwise fun a b => Dis (atE f a) (atE f b)
  few : f.tm * l.length ≤ (pop w : Nat)
  one : 1 ≤ l.length
  len : l.length ≤ 1089
  own : ∀ bs, (ownK f bs (plsL f).length).length ≤ l.length ∧ ((ownK f bs (plsL f).length).length = l.length → Lex l (ownK f bs (plsL f).length))
theorem apl_ok {f : Fd} (hv : f.valid = true) {w : Nat} (hw : w < 2 ^ f.ps.length) (hl : listQ f w = true) : Apl f w (apL f (allS f.ps.length)) := by
  have hn := valid_num hv
  have ha := allS_lt (n := f.ps.length) (by omega)
  rw [ap_is hv ha hl]
  have hs := far_sub (K := atE f) (plsL f) (allS f.ps.length)
  refine ⟨fun e he => pls_mem (hs.subset he), (pls_pair f).sublist hs, (far_fit (atE_lt hv) _ _ ha).dis, far_few hv hw hl, far_some hv hl, ?_, fun bs => ?_⟩
  · have := hs.length_le
    have := pls_len hv
    omega
  have h1 := ownK_sub f bs (plsL f).length
  rw [List.take_length] at h1
  exact far_best (atE_lt hv) _ _ _ ha (pls_pair f) h1 ⟨fun e _ => at_all f e, ownK_dis f bs _⟩
theorem Apl.tog {f : Fd} {w : Nat} {l : List Pl} (h : Apl f w l) {i j : Nat} (hij : j < i) {a b : Pl} (ha : l[i]? = some a) (hb : l[j]? = some b) : togQ f a b = false := by
  obtain ⟨h1, e1⟩ := List.getElem?_eq_some_iff.1 ha
  obtain ⟨h2, e2⟩ := List.getElem?_eq_some_iff.1 hb
  have := List.pairwise_iff_getElem.1 h.dis j i h2 h1 hij
  rw [e1, e2] at this
  exact tog_dis.2 this.symm
def befB (a b : Pl) : Bool := decide (a.1 < b.1) || (decide (a.1 = b.1) && decide (a.2 < b.2))
theorem befB_iff {a b : Pl} : befB a b = true ↔ bef a b := by
  simp only [befB, bef, Bool.or_eq_true, Bool.and_eq_true, decide_eq_true_eq]
theorem befB_1 {a b : Pl} (h : a.1 < b.1) : befB a b = true := by simp only [befB, decide_eq_true h, Bool.true_or]
theorem befB_2 {a b : Pl} (h : a.1 = b.1) : befB a b = decide (a.2 < b.2) := by
  rw [befB, decide_eq_true h, decide_eq_false (by omega), Bool.true_and, Bool.false_or]
theorem befB_3 {a b : Pl} (h : b.1 < a.1) : befB a b = false := by
  rw [befB, decide_eq_false (by omega), decide_eq_false (by omega), Bool.false_and, Bool.false_or]
theorem Apl.bef {f : Fd} {w : Nat} {l : List Pl} (h : Apl f w l) {i : Nat} {a b : Pl} (hb : l[i]? = some a) (ha : l[i + 1]? = some b) : befB a b = true := by
  obtain ⟨h1, e1⟩ := List.getElem?_eq_some_iff.1 ha
  obtain ⟨h2, e2⟩ := List.getElem?_eq_some_iff.1 hb
  have := List.pairwise_iff_getElem.1 h.ord i (i + 1) h2 h1 (by omega)
  rw [e1, e2] at this
  exact befB_iff.2 this
theorem tmod_at (bs : List Int) (t : Nat) (h : 0 < bs.length) : ∃ b, bs[t % bs.length]? = some b ∧ (t : Int).tmod (bs.length : Int) = ((t % bs.length : Nat) : Int) :=
  ⟨bs[t % bs.length]'(Nat.mod_lt _ h), List.getElem?_eq_getElem _, (Int.ofNat_tmod t bs.length).symm⟩
theorem tmod_at2 (bs : List Int) (t : Nat) (h : 0 < bs.length) : ∃ (m : Nat) (b : Int), (t + 1) % bs.length = m ∧ m < bs.length ∧ bs[m]? = some b ∧ ((t : Int) + 1).tmod (bs.length : Int) = (m : Int) := by
  obtain ⟨b, h1, h2⟩ := tmod_at bs (t + 1) h
  exact ⟨_, b, rfl, Nat.mod_lt _ h, h1, h2⟩
theorem lp_size (l : List Pl) : ∀ x ∈ l.map (fun e : Int × Int => P.agg [.int .i64 e.1, .int .i64 e.2]), x.size = 2 := fun x hx => by
  obtain ⟨e, _, rfl⟩ := List.mem_map.1 hx; rfl
theorem lpt_size (l : List Pl) (i : Nat) : ∀ x ∈ (l.map (fun e : Int × Int => P.agg [.int .i64 e.1, .int .i64 e.2])).take i, x.size = 2 := fun x hx => lp_size l x (List.mem_of_mem_take hx)
theorem tk_next {α : Type} {q : α → Bool} {l : List α} {k : Nat} {x : α} (hx : l[k]? = some x) (h : (l.take k).any q = false) (h2 : q x = false) : (l.take (k + 1)).any q = false := by
  rw [List.take_add_one, hx, Option.toList_some, List.any_append, h, List.any_cons, h2]; rfl
theorem skQ_t {bs : List Int} {t : Nat} {b : Int} (hb : bs[t % bs.length]? = some b) (h : b.tmod 3 = 0) : skQ bs t = true := by rw [skQ, hb]; exact decide_eq_true h
theorem skQ_f {bs : List Int} {t : Nat} {b : Int} (hb : bs[t % bs.length]? = some b) (h : ¬ b.tmod 3 = 0) : skQ bs t = false := by rw [skQ, hb]; exact decide_eq_false h
theorem skQ_n {bs : List Int} {t : Nat} (h : bs.length = 0) : skQ bs t = false := by rw [skQ, List.eq_nil_of_length_eq_zero h]; rfl
end Go.Proofs.Ytabeeaiilanmjaa

/- What is needed lies in every list; if it is one it is the only shortest one. -/
namespace Go.Proofs.Ytabeeaiilanmjaa
open Go.Gh
set_option maxRecDepth 100000
def butN (f : Fd) (i : Nat) : Nat := allS f.ps.length &&& (2 ^ 64 - 1 - 2 ^ i)
theorem but_lt (f : Fd) (i : Nat) : butN f i < 2 ^ f.ps.length := Nat.lt_of_le_of_lt Nat.and_le_left (by have := Nat.two_pow_pos f.ps.length; rw [allS]; omega)
theorem but_bit {f : Fd} {i j : Nat} (hi : i < 12) (hj : j < f.ps.length) (hl : f.ps.length ≤ 12) : (butN f i).testBit j = !decide (i = j) := by
  rcases off_bit (s := allS f.ps.length) hi j with h | h
  · rw [butN, h, all_bit, decide_eq_true hj, Bool.true_and]
  omega
theorem lt_of_bit {s n i : Nat} (h : s < 2 ^ n) (hb : s.testBit i = true) : i < n := Nat.lt_of_not_le fun h2 => by rw [lt_bit h h2] at hb; cases hb
/-- A set without a plate lies in all but that one. -/
theorem but_sub {f : Fd} (hl : f.ps.length ≤ 12) {s i : Nat} (hs : s < 2 ^ f.ps.length) (hi : i < 12) (hb : s.testBit i = false) : Sub s (butN f i) := fun j hj => by
  rw [but_bit hi (lt_of_bit hs hj) hl]
  by_cases e : i = j
  · subst e; rw [hb] at hj; cases hj
  rw [decide_eq_false e]; rfl
theorem need_bit {f : Fd} (hv : f.valid = true) (hq : listQ f (usedN f f.ps.length) = true) {i : Nat} (hi : i < f.ps.length) : (needN f f.ps.length).testBit i = !listQ f (butN f i) := by
  have hn := valid_num hv
  have hl : f.ps.length ≤ 12 := by omega
  rw [needN, setN_bit, decide_eq_true hi, Bool.true_and, needQ]
  cases hu : (usedN f f.ps.length).testBit i with
  | true =>
    rw [Bool.true_and, ← list_used f (butN f i)]
    congr 2
    refine Nat.eq_of_testBit_eq fun j => ?_
    rw [lessN, Nat.testBit_and (butN f i)]
    rcases off_bit (s := usedN f f.ps.length) (show i < 12 by omega) j with h | h
    · rw [h]
      cases hj : (usedN f f.ps.length).testBit j with
      | false => rw [Bool.false_and, Bool.and_false]
      | true => rw [but_bit (by omega) (lt_of_bit (used_lt2 f) hj) hl, Bool.true_and, Bool.and_true]
    rw [lt_bit (used_lt2 f) (show f.ps.length ≤ j by omega), Bool.and_false]
    exact lt_bit (and_lt2 (used_lt2 f)) (show f.ps.length ≤ j by omega)
  | false =>
    rw [Bool.false_and, list_sub hv (but_sub hl (used_lt2 f) (by omega) hu) hq]; rfl
end Go.Proofs.Ytabeeaiilanmjaa

/- The document's ways to the shortest list, to what is needed, and to the places that are apart. -/
namespace Go.Proofs.Ytabeeaiilanmjaa
open Go.Gh
set_option maxRecDepth 100000
/-- The shortest list, looked for by number. -/
def bstR (f : Fd) : Nat → Nat
  | 0 => allS f.ps.length
  | k + 1 => if pop k < pop (bstR f k) ∧ listQ f k = true then k else bstR f k
theorem bst_t {f : Fd} {k : Nat} (h1 : pop k < pop (bstR f k)) (h2 : listQ f k = true) : bstR f (k + 1) = k := if_pos ⟨h1, h2⟩
theorem bst_f1 {f : Fd} {k : Nat} (h1 : ¬ pop k < pop (bstR f k)) : bstR f (k + 1) = bstR f k := if_neg fun h => h1 h.1
theorem bst_f2 {f : Fd} {k : Nat} (h2 : listQ f k = false) : bstR f (k + 1) = bstR f k := if_neg fun h => by rw [h2] at h; cases h.2
theorem bst_lt {f : Fd} : ∀ k, k ≤ 2 ^ f.ps.length → bstR f k < 2 ^ f.ps.length
  | 0, _ => by have := Nat.two_pow_pos f.ps.length; rw [bstR, allS]; omega
  | k + 1, h => by
    have := bst_lt (f := f) k (by omega)
    rw [bstR]; split
    · omega
    exact this
theorem pop_all {n s : Nat} (hn : n ≤ 12) (hs : s < 2 ^ n) (h : s < allS n) : pop s < pop (allS n) := by
  rcases pop_sub n s (allS n) hs (by have := Nat.two_pow_pos n; rw [allS]; omega) hn (all_sub hs) with h | h
  · exact h
  omega
theorem bst_ok {f : Fd} (h12 : f.ps.length ≤ 12) (hq : listQ f (allS f.ps.length) = true) : ∀ k, k ≤ 2 ^ f.ps.length → listQ f (bstR f k) = true ∧ (bstR f k < k ∨ bstR f k = allS f.ps.length) ∧ ∀ s, s < k → listQ f s = true → pop (bstR f k) ≤ pop s ∧ (s < bstR f k → pop (bstR f k) < pop s)
  | 0, _ => ⟨hq, .inr rfl, fun s h => by omega⟩
  | k + 1, hk => by
    obtain ⟨h1, h2, h3⟩ := bst_ok h12 hq k (by omega)
    by_cases hc : pop k < pop (bstR f k) ∧ listQ f k = true
    · rw [bst_t hc.1 hc.2]
      refine ⟨hc.2, .inl (by omega), fun s hs hl => ?_⟩
      by_cases e : s = k
      · subst e; exact ⟨Nat.le_refl _, fun h => by omega⟩
      have := (h3 s (by omega) hl).1
      exact ⟨by omega, fun _ => by omega⟩
    have e : bstR f (k + 1) = bstR f k := if_neg hc
    rw [e]
    refine ⟨h1, h2.imp (fun h => by omega) id, fun s hs hl => ?_⟩
    by_cases e : s = k
    · subst e
      have h4 : ¬ pop s < pop (bstR f s) := fun h => hc ⟨h, hl⟩
      refine ⟨by omega, fun h5 => ?_⟩
      rcases h2 with h2 | h2
      · omega
      rw [h2] at h4 h5
      exact absurd (pop_all h12 (by omega) h5) h4
    exact h3 s (by omega) hl
theorem bst_is {f : Fd} (hv : f.valid = true) {w : Nat} (h : Sho f w) : bstR f (2 ^ f.ps.length) = w := by
  have hn := valid_num hv
  have hq : listQ f (allS f.ps.length) = true := list_sub hv (all_sub h.lt) h.ls
  obtain ⟨h1, _, h3⟩ := bst_ok (by omega) hq _ (Nat.le_refl _)
  have h4 := h3 w h.lt h.ls
  have h5 := h.min _ (bst_lt _ (Nat.le_refl _)) h1
  omega
/-- How many lists are as short, one by one. -/
theorem numR_t {f : Fd} {w s : Nat} (h : sameQ f w s = true) : numR f w (s + 1) = numR f w s + 1 := if_pos h
theorem numR_f {f : Fd} {w s : Nat} (h : sameQ f w s = false) : numR f w (s + 1) = numR f w s := if_neg (by rw [h]; simp)
/-- What is needed. -/
theorem needQ_but {f : Fd} (hv : f.valid = true) (hq : listQ f (usedN f f.ps.length) = true) {i : Nat} (hi : i < f.ps.length) : needQ f i = !listQ f (butN f i) := by
  have := need_bit hv hq hi
  rw [needN, setN_bit, decide_eq_true hi, Bool.true_and] at this
  exact this
theorem but_num {f : Fd} (hl : f.ps.length ≤ 12) {i : Nat} (hi : i < f.ps.length) : ((allS f.ps.length : Nat) : Int) - ((2 ^ i : Nat) : Int) = ((butN f i : Nat) : Int) ∧ 2 ^ i ≤ allS f.ps.length := by
  have h : ∀ n, n ≤ 12 → ∀ i, i < n → (allS n &&& (2 ^ 64 - 1 - 2 ^ i)) + 2 ^ i = allS n := by decide +kernel
  have h2 : butN f i + 2 ^ i = allS f.ps.length := h _ hl i hi
  omega
theorem need_next_t {f : Fd} {k : Nat} (h : needQ f k = true) : needN f (k + 1) = needN f k + 2 ^ k := by
  rw [needN, setN_next h, or_add (setN_lt2 _ _)]; rfl
theorem need_next_f {f : Fd} {k : Nat} (h : needQ f k = false) : needN f (k + 1) = needN f k := setN_skip h
/-! The longest list of places that are apart, looked for place by place. -/
def frS (K : Pl → Nat) (s : Nat) (b : List Pl) : Nat := b.foldl (fun s q => offN s (K q)) s
theorem frS_le (K : Pl → Nat) : ∀ (b : List Pl) (s : Nat), frS K s b ≤ s
  | [], s => Nat.le_refl _
  | q :: b, s => by
    have h1 := frS_le K b (offN s (K q))
    have h2 := offN_le s (K q)
    show frS K (offN s (K q)) b ≤ s
    omega
theorem frS_snoc (K : Pl → Nat) (s : Nat) (b : List Pl) (p : Pl) : frS K s (b ++ [p]) = offN (frS K s b) (K p) := by rw [frS, List.foldl_append]; rfl
theorem frS_sub {K : Pl → Nat} (hK : ∀ e, K e < 4096) {a : Nat} : ∀ (b : List Pl) (s : Nat), s < 4096 → (Sub a (frS K s b) ↔ Sub a s ∧ ∀ q ∈ b, Dis a (K q))
  | [], s, _ => ⟨fun h => ⟨h, fun q hq => by cases hq⟩, fun h => h.1⟩
  | q :: b, s, hs => by
    have h2 := offN_le s (K q)
    show Sub a (frS K (offN s (K q)) b) ↔ _
    rw [frS_sub hK b _ (by omega), sub_off (hK q) hs]
    constructor
    · rintro ⟨⟨h3, h4⟩, h5⟩
      refine ⟨h3, fun x hx => ?_⟩
      rcases List.mem_cons.1 hx with rfl | hx
      · exact h4
      exact h5 x hx
    rintro ⟨h3, h4⟩
    exact ⟨⟨h3, h4 q List.mem_cons_self⟩, fun x hx => h4 x (List.mem_cons_of_mem _ hx)⟩
def freeB (f : Fd) (b : List Pl) (p : Pl) : Bool := b.all fun q => !togQ f q p
def lpR (f : Fd) : List Pl → List Pl → List Pl → List Pl
  | _, best, [] => best
  | b, best, p :: L => lpR f b (if freeB f b p = true then (if best.length < (lpR f (b ++ [p]) (b ++ [p]) L).length then lpR f (b ++ [p]) (b ++ [p]) L else best) else best) L
theorem free_sub {f : Fd} (hv : f.valid = true) {b : List Pl} {p : Pl} : freeB f b p = true ↔ Sub (atE f p) (frS (atE f) (allS f.ps.length) b) := by
  have hn := valid_num hv
  rw [frS_sub (atE_lt hv) b _ (allS_lt (by omega)), freeB, List.all_eq_true]
  constructor
  · intro h
    refine ⟨at_all f p, fun q hq => ?_⟩
    have := h q hq
    exact (tog_dis.1 (by simpa using this)).symm
  rintro ⟨_, h⟩ q hq
  rw [tog_dis.2 (h q hq).symm]; rfl
theorem lp_far {f : Fd} (hv : f.valid = true) : ∀ (L b best : List Pl), b.length ≤ best.length → lpR f b best L = if best.length < (b ++ far (atE f) L (frS (atE f) (allS f.ps.length) b)).length then b ++ far (atE f) L (frS (atE f) (allS f.ps.length) b) else best
  | [], b, best, h => by
    rw [lpR, far, List.append_nil, if_neg (by omega)]
  | p :: L, b, best, h => by
    have hn := valid_num hv
    have hs : frS (atE f) (allS f.ps.length) b < 4096 := Nat.lt_of_le_of_lt (frS_le _ _ _) (allS_lt (by omega))
    rw [lpR]
    by_cases hf : freeB f b p = true
    · have hsub := (free_sub hv).1 hf
      have hx := lp_far hv L (b ++ [p]) (b ++ [p]) (Nat.le_refl _)
      rw [frS_snoc] at hx
      have hx2 : lpR f (b ++ [p]) (b ++ [p]) L = b ++ p :: far (atE f) L (offN (frS (atE f) (allS f.ps.length) b) (atE f p)) := by
        rw [hx]
        split
        · rw [List.append_assoc]; rfl
        rename_i h2
        have h3 : far (atE f) L (offN (frS (atE f) (allS f.ps.length) b) (atE f p)) = [] := by
          simp only [List.length_append] at h2
          exact List.eq_nil_of_length_eq_zero (by omega)
        rw [h3]
      rw [if_pos hf, hx2, lp_far hv L b _ (by split <;> (try rw [List.length_append]) <;> omega), far, if_pos ((off_iff (atE_lt hv p) hs).2 hsub)]
      simp only [List.length_append, List.length_cons]
      by_cases h1 : best.length < b.length + ((far (atE f) L (offN (frS (atE f) (allS f.ps.length) b) (atE f p))).length + 1)
      · rw [if_pos h1]
        simp only [List.length_append, List.length_cons]
        by_cases h2 : (far (atE f) L (frS (atE f) (allS f.ps.length) b)).length ≤ (far (atE f) L (offN (frS (atE f) (allS f.ps.length) b) (atE f p))).length + 1
        · rw [if_pos h2, if_neg (by omega), List.length_cons, if_pos (by omega)]
        rw [if_neg h2, if_pos (by omega), if_pos (by omega)]
      rw [if_neg h1]
      by_cases h2 : (far (atE f) L (frS (atE f) (allS f.ps.length) b)).length ≤ (far (atE f) L (offN (frS (atE f) (allS f.ps.length) b) (atE f p))).length + 1
      · rw [if_pos h2, if_neg (by omega), List.length_cons, if_neg (by omega)]
      rw [if_neg h2]
    rw [if_neg hf, lp_far hv L b best h, far, if_neg fun h0 => hf ((free_sub hv).2 ((off_iff (atE_lt hv p) hs).1 h0))]
theorem lp_ap {f : Fd} (hv : f.valid = true) {s : Nat} (h : listQ f s = true) : lpR f [] [] (plsL f) = apL f (allS f.ps.length) := by
  have hn := valid_num hv
  rw [ap_is hv (allS_lt (by omega)) h, lp_far hv (plsL f) [] [] (Nat.le_refl _)]
  have h1 := far_some hv h
  show (if 0 < (far (atE f) (plsL f) (allS f.ps.length)).length then far (atE f) (plsL f) (allS f.ps.length) else []) = _
  rw [if_pos (by omega)]
theorem lp_len {f : Fd} : ∀ (L b best : List Pl) (n : Nat), best.length ≤ n → b.length + L.length ≤ n → (lpR f b best L).length ≤ n
  | [], b, best, n, h1, _ => h1
  | p :: L, b, best, n, h1, h2 => by
    rw [List.length_cons] at h2
    have h3 := lp_len (f := f) L (b ++ [p]) (b ++ [p]) n (by rw [List.length_append, List.length_cons, List.length_nil]; omega) (by rw [List.length_append, List.length_cons, List.length_nil]; omega)
    rw [lpR]
    exact lp_len L b _ n (by split <;> (try split) <;> omega) (by omega)
theorem lp_a {f : Fd} {b best L : List Pl} {p : Pl} (h1 : freeB f b p = true) (h2 : best.length < (lpR f (b ++ [p]) (b ++ [p]) L).length) : lpR f b best (p :: L) = lpR f b (lpR f (b ++ [p]) (b ++ [p]) L) L := by rw [lpR, if_pos h1, if_pos h2]
theorem lp_b {f : Fd} {b best L : List Pl} {p : Pl} (h1 : freeB f b p = true) (h2 : ¬ best.length < (lpR f (b ++ [p]) (b ++ [p]) L).length) : lpR f b best (p :: L) = lpR f b best L := by rw [lpR, if_pos h1, if_neg h2]
theorem lp_c {f : Fd} {b best L : List Pl} {p : Pl} (h1 : freeB f b p = false) : lpR f b best (p :: L) = lpR f b best L := by rw [lpR, if_neg (by rw [h1]; simp)]
end Go.Proofs.Ytabeeaiilanmjaa

/- A rule of drawn regions: a register's truth is known. -/
namespace Go.Proofs.Ytabeeaiilanmjaa
open Go.Gh
set_option maxRecDepth 100000
variable {E : Env Try.prog} {C : Cx E} {r : Option Nat} {ops : Array Oper} {Q : GE → Sg E → Prop} {l : List (Nat × G)} {m : List (Nat × Ob)} {A : E.α} {df : List GD}
theorem drb {lo : Nat} {σ0 : Sg E} {ids : List (List Nat × List Nat)} (t : Nat) (b : Bool) {x : Bool} (hx : mkFr l t = .p (.bool x) := by (simp only [mkFr_cons, Nat.reduceEqDiff, reduceIte] <;> rfl)) (h : x = b) (k : segK C r ops (GPost C Q) lo σ0 ids (sg ((t, .p (.bool b)) :: l) m A df)) : segK C r ops (GPost C Q) lo σ0 ids (sg l m A df) := by
  subst h
  rwa [sg, mkFr_again hx] at k
end Go.Proofs.Ytabeeaiilanmjaa

/- The document: the shortest list, how many are as short, what is needed; all places, and those that are apart. -/
namespace Go.Proofs.Ytabeeaiilanmjaa
open Go.Gh
set_option maxRecDepth 100000
set_option maxHeartbeats 4000000
structure kWf1 (c : Prop) : Prop where
  h : c := by (first | exact True.intro | omega | (simp only [inI]; omega) | (simp [P.size, pS, all_int, allOne_p, goods_p, allOne, goods, good, G.one, P.one, P.cells] <;> first | omega | assumption | simp_all))
structure kWf2 (c : Prop) : Prop where
  h : c := by (first | exact True.intro | omega | ((repeat' apply And.intro) <;> first | exact True.intro | omega | exact lp_size _ | exact lpt_size _ _ | (simp; done) | (simp; omega)) | (simp only [inI]; omega) | (simp [P.size, pS, all_int, allOne_p, goods_p, allOne, goods, good, G.one, P.one, P.cells] <;> first | omega | assumption | simp_all))
theorem ent21 : Enters Try.prog 21 := Enters.mk Try.func21 (by kernel_rfl) rfl
theorem r_short_t (f : Fd) (hv : f.valid = true) (w : Nat) (hS : Sho f w) : PSpec Try.prog 21 [.agg [.list (f.ps.map pS), .int .i64 f.el, .int .i64 f.eh, .int .i64 f.nl, .int .i64 f.nh, .int .i64 f.dl, .int .i64 f.dh, .int .i64 f.dep, .int .i64 f.tm, .int .i64 f.gp]] (.ok (.tuple [.int .i64 (w : Nat), .int .i64 0])) := by
  refine pspec_of Try.func21 (rfl : Try.f21.body = some _) rfl ?_
  intro E A C hN hL
  replace hN : C.N = 34 := hN
  simp only [Gh.num, List.map_cons, List.map_nil, Nat.reduceAdd]
  have hn := valid_num hv
  have hpos := Nat.two_pow_pos f.ps.length
  have h62 : 2 ^ f.ps.length ≤ 2 ^ 12 := Nat.pow_le_pow_right (by omega) (by omega)
  have hal := allS_i f.ps.length
  have hal1 := Int.le_of_eq hal
  have hal2 := Int.le_of_eq hal.symm
  have hs12 := allS_lt (n := f.ps.length) (by omega)
  have hq : listQ f (allS f.ps.length) = true := list_sub hv (all_sub hS.lt) hS.ls
  repeat refine gwp_seq ?_
  refine gwp_region ?_
  refine n1 110 false (hc := kWf1.h {}) (k := ?_)
  refine v0 (k := ?_)
  refine v0 (k := ?_)
  refine nil0 ?_
  refine cl [1] (k := ?_)
  repeat refine gwp_seq ?_
  refine gwp_region ?_
  refine v0 (k := ?_)
  refine pc0 (spec := r_open_t f hv hq) (hent := ent52) (k := ?_)
  refine v0 (k := ?_)
  refine v0 (k := ?_)
  refine v0 (k := ?_)
  refine v0 (k := ?_)
  refine v0 (k := ?_)
  refine nil0 ?_
  refine cl [1, 4, 5] (k := ?_)
  repeat refine gwp_seq ?_
  refine fz 110 10 [.k, .k, .k, .k, .k, .k, .k, .k, .k, .k] (k := ?_)
  refine gwp_region ?_
  refine v0 (k := ?_)
  refine v0 (k := ?_)
  refine rb 14 false (h := by (first | rfl | decide)) (k := ?_)
  refine nil0 ?_
  repeat refine gwp_seq ?_
  refine cF (k := ?_)
  repeat refine gwp_seq ?_
  refine gwp_skip ?_
  refine cl [1, 4] (k := ?_)
  repeat refine gwp_seq ?_
  refine gwp_region ?_
  refine v0 (k := ?_)
  refine v0 (k := ?_)
  refine nil0 ?_
  refine cl [1, 4, 6] (k := ?_)
  repeat refine gwp_seq ?_
  refine gwp_region ?_
  refine v0 (k := ?_)
  refine nil0 ?_
  refine cl [1, 4, 6, 7] (k := ?_)
  repeat refine gwp_seq ?_
  refine gwp_block ?_
  repeat refine gwp_seq ?_
  refine gc_loop (fun mz σ => ∃ k : Nat, (k ≤ 2 ^ f.ps.length) ∧ mz = 2 ^ f.ps.length - k ∧ σ = (sg [(1, .ref 110 0), (4, .p (.int .i64 ((allS f.ps.length) : Nat))), (6, .p (.int .i64 (bstR f k : Nat))), (7, .p (.int .i64 (k : Nat)))] [(110, .cells [.p (.list (f.ps.map pS)), .p (.int .i64 f.el), .p (.int .i64 f.eh), .p (.int .i64 f.nl), .p (.int .i64 f.nh), .p (.int .i64 f.dl), .p (.int .i64 f.dh), .p (.int .i64 f.dep), .p (.int .i64 f.tm), .p (.int .i64 f.gp)] 10)] A [] : Sg E)) ?_ (fun mz σ hI => ?_)
  · refine lbeg [1, 4, 6, 7] (hV := ?_)
    exact ⟨_, 0, by omega, rfl, rfl⟩
  obtain ⟨k, hk, hnn, rfl⟩ := hI
  repeat refine gwp_seq ?_
  refine gwp_region ?_
  refine v0 (k := ?_)
  refine v0 (k := ?_)
  refine v0 (k := ?_)
  refine nil0 ?_
  repeat refine gwp_seq ?_
  refine cB (k1 := fun hb1 => ?_) (k0 := fun hb1 => ?_)
  · replace hb1 := hB.h {} hb1
    try rw [eqI] at hb1
    repeat refine gwp_seq ?_
    refine gwp_skip ?_
    refine cl [1, 4, 6, 7] (k := ?_)
    repeat refine gwp_seq ?_
    refine gwp_block ?_
    repeat refine gwp_seq ?_
    have hbl := bst_lt (f := f) k (by omega)
    refine gwp_region ?_
    refine v0 (k := ?_)
    refine pc0 (spec := r_size k (by omega)) (hent := ent33) (k := ?_)
    refine v0 (k := ?_)
    refine pc0 (spec := r_size (bstR f k) (by omega)) (hent := ent33) (k := ?_)
    refine v0 (k := ?_)
    refine v0 (k := ?_)
    refine b0 (k1 := fun hb2 => ?_) (k0 := fun hb2 => ?_)
    · replace hb2 := hB.h {} hb2
      try rw [eqI] at hb2
      refine w0 (k := ?_)
      refine w0 (k := ?_)
      refine pcw (spec := r_list f hv k (by omega)) (hent := ent53) (k := ?_)
      refine v0 (k := ?_)
      refine nil0 ?_
      repeat refine gwp_seq ?_
      refine cB (k1 := fun hb3 => ?_) (k0 := fun hb3 => ?_)
      · replace hb3 := hB.h {} hb3
        try rw [eqI] at hb3
        repeat refine gwp_seq ?_
        refine gwp_region ?_
        refine v0 (k := ?_)
        refine v0 (k := ?_)
        refine nil0 ?_
        refine cl [1, 4, 6, 7] (k := ?_)
        repeat refine gwp_seq ?_
        refine gwp_region ?_
        refine v0 (k := ?_)
        refine v1 (hc := kWf1.h {}) (k := ?_)
        refine v0 (k := ?_)
        refine nil0 ?_
        refine lend [1, 4, 6, 7] (h := ?_) (hV := ?_) (n' := 2 ^ f.ps.length - (k + 1))
        · omega
        first
        | exact ⟨k + 1, by omega, rfl, sgE (by rw [bst_t (by omega) (by with_reducible assumption)]; rfl) rfl⟩
        | exact ⟨k + 1, by omega, rfl, sgE (by rw [bst_f1 (by omega)]; rfl) rfl⟩
        | exact ⟨k + 1, by omega, rfl, sgE (by rw [bst_f2 (by with_reducible assumption)]; rfl) rfl⟩
      replace hb3 := hB.h {} hb3
      try rw [eqI] at hb3
      repeat refine gwp_seq ?_
      refine gwp_skip ?_
      refine cl [1, 4, 6, 7] (k := ?_)
      repeat refine gwp_seq ?_
      refine gwp_region ?_
      refine v0 (k := ?_)
      refine v1 (hc := kWf1.h {}) (k := ?_)
      refine v0 (k := ?_)
      refine nil0 ?_
      refine lend [1, 4, 6, 7] (h := ?_) (hV := ?_) (n' := 2 ^ f.ps.length - (k + 1))
      · omega
      first
      | exact ⟨k + 1, by omega, rfl, sgE (by rw [bst_t (by omega) (by with_reducible assumption)]; rfl) rfl⟩
      | exact ⟨k + 1, by omega, rfl, sgE (by rw [bst_f1 (by omega)]; rfl) rfl⟩
      | exact ⟨k + 1, by omega, rfl, sgE (by rw [bst_f2 (by with_reducible assumption)]; rfl) rfl⟩
    replace hb2 := hB.h {} hb2
    try rw [eqI] at hb2
    refine x0 (k := ?_)
    refine x0 (k := ?_)
    refine x0 (k := ?_)
    refine v0 (k := ?_)
    refine nil0 ?_
    repeat refine gwp_seq ?_
    refine cF (k := ?_)
    repeat refine gwp_seq ?_
    refine gwp_skip ?_
    refine cl [1, 4, 6, 7] (k := ?_)
    repeat refine gwp_seq ?_
    refine gwp_region ?_
    refine v0 (k := ?_)
    refine v1 (hc := kWf1.h {}) (k := ?_)
    refine v0 (k := ?_)
    refine nil0 ?_
    refine lend [1, 4, 6, 7] (h := ?_) (hV := ?_) (n' := 2 ^ f.ps.length - (k + 1))
    · omega
    first
    | exact ⟨k + 1, by omega, rfl, sgE (by rw [bst_t (by omega) (by with_reducible assumption)]; rfl) rfl⟩
    | exact ⟨k + 1, by omega, rfl, sgE (by rw [bst_f1 (by omega)]; rfl) rfl⟩
    | exact ⟨k + 1, by omega, rfl, sgE (by rw [bst_f2 (by with_reducible assumption)]; rfl) rfl⟩
  replace hb1 := hB.h {} hb1
  try rw [eqI] at hb1
  repeat refine gwp_seq ?_
  refine gwp_exit ?_
  repeat (first | refine gthen_exit ?_ | refine gnoGoto_exit ?_ | refine gblock_here ?_ | refine gblock_out rfl ?_)
  refine cl [6] (k := ?_)
  repeat refine gwp_seq ?_
  refine gwp_region ?_
  refine v0 (k := ?_)
  refine v0 (k := ?_)
  refine v0 (k := ?_)
  refine nil0 ?_
  repeat refine gwp_seq ?_
  refine gwp_ret ?_
  repeat (first | refine gthen_ret ?_ | refine gblock_ret ?_ | refine gnoGoto_ret ?_)
  refine fin_ret ?_
  refine fp2 (hR := ?_)
  obtain rfl : k = 2 ^ f.ps.length := by omega
  rw [bst_is hv hS]
  rfl
theorem r_short_n (f : Fd) (hv : f.valid = true) (hq : (listQ f (allS f.ps.length)) = false) : PSpec Try.prog 21 [.agg [.list (f.ps.map pS), .int .i64 f.el, .int .i64 f.eh, .int .i64 f.nl, .int .i64 f.nh, .int .i64 f.dl, .int .i64 f.dh, .int .i64 f.dep, .int .i64 f.tm, .int .i64 f.gp]] (.ok (.tuple [.int .i64 0, .int .i64 4])) := by
  refine pspec_of Try.func21 (rfl : Try.f21.body = some _) rfl ?_
  intro E A C hN hL
  replace hN : C.N = 34 := hN
  simp only [Gh.num, List.map_cons, List.map_nil, Nat.reduceAdd]
  repeat refine gwp_seq ?_
  refine gwp_region ?_
  refine n1 110 false (hc := kWf1.h {}) (k := ?_)
  refine v0 (k := ?_)
  refine v0 (k := ?_)
  refine nil0 ?_
  refine cl [1] (k := ?_)
  repeat refine gwp_seq ?_
  refine gwp_region ?_
  refine v0 (k := ?_)
  refine pc0 (spec := r_open_n f hv hq) (hent := ent52) (k := ?_)
  refine v0 (k := ?_)
  refine v0 (k := ?_)
  refine v0 (k := ?_)
  refine v0 (k := ?_)
  refine v0 (k := ?_)
  refine nil0 ?_
  refine cl [1, 4, 5] (k := ?_)
  repeat refine gwp_seq ?_
  refine gwp_region ?_
  refine v0 (k := ?_)
  refine v0 (k := ?_)
  refine rb 14 true (h := by (first | rfl | decide)) (k := ?_)
  refine nil0 ?_
  repeat refine gwp_seq ?_
  refine cT (k := ?_)
  repeat refine gwp_seq ?_
  refine gwp_region ?_
  refine v0 (k := ?_)
  refine v0 (k := ?_)
  refine v0 (k := ?_)
  refine nil0 ?_
  repeat refine gwp_seq ?_
  refine gwp_ret ?_
  repeat (first | refine gthen_ret ?_ | refine gblock_ret ?_ | refine gnoGoto_ret ?_)
  refine fin_ret ?_
  refine fp2 (hR := ?_)
  rfl
theorem r_short_f (f : Fd) (hl : f.ps.length ≤ 1048576) (hv : f.valid = false) : PSpec Try.prog 21 [.agg [.list (f.ps.map pS), .int .i64 f.el, .int .i64 f.eh, .int .i64 f.nl, .int .i64 f.nh, .int .i64 f.dl, .int .i64 f.dh, .int .i64 f.dep, .int .i64 f.tm, .int .i64 f.gp]] (.ok (.tuple [.int .i64 0, .int .i64 1])) := by
  refine pspec_of Try.func21 (rfl : Try.f21.body = some _) rfl ?_
  intro E A C hN hL
  replace hN : C.N = 34 := hN
  simp only [Gh.num, List.map_cons, List.map_nil, Nat.reduceAdd]
  repeat refine gwp_seq ?_
  refine gwp_region ?_
  refine n1 110 false (hc := kWf1.h {}) (k := ?_)
  refine v0 (k := ?_)
  refine v0 (k := ?_)
  refine nil0 ?_
  refine cl [1] (k := ?_)
  repeat refine gwp_seq ?_
  refine gwp_region ?_
  refine v0 (k := ?_)
  refine pc0 (spec := r_open_f f hl hv) (hent := ent52) (k := ?_)
  refine v0 (k := ?_)
  refine v0 (k := ?_)
  refine v0 (k := ?_)
  refine v0 (k := ?_)
  refine v0 (k := ?_)
  refine nil0 ?_
  refine cl [1, 4, 5] (k := ?_)
  repeat refine gwp_seq ?_
  refine gwp_region ?_
  refine v0 (k := ?_)
  refine v0 (k := ?_)
  refine rb 14 true (h := by (first | rfl | decide)) (k := ?_)
  refine nil0 ?_
  repeat refine gwp_seq ?_
  refine cT (k := ?_)
  repeat refine gwp_seq ?_
  refine gwp_region ?_
  refine v0 (k := ?_)
  refine v0 (k := ?_)
  refine v0 (k := ?_)
  refine nil0 ?_
  repeat refine gwp_seq ?_
  refine gwp_ret ?_
  repeat (first | refine gthen_ret ?_ | refine gblock_ret ?_ | refine gnoGoto_ret ?_)
  refine fin_ret ?_
  refine fp2 (hR := ?_)
  rfl
theorem ent23 : Enters Try.prog 23 := Enters.mk Try.func23 (by kernel_rfl) rfl
theorem r_lists_t (f : Fd) (hv : f.valid = true) (w : Nat) (hS : Sho f w) : PSpec Try.prog 23 [.agg [.list (f.ps.map pS), .int .i64 f.el, .int .i64 f.eh, .int .i64 f.nl, .int .i64 f.nh, .int .i64 f.dl, .int .i64 f.dh, .int .i64 f.dep, .int .i64 f.tm, .int .i64 f.gp]] (.ok (.tuple [.int .i64 (cntA f w : Nat), .int .i64 0])) := by
  refine pspec_of Try.func23 (rfl : Try.f23.body = some _) rfl ?_
  intro E A C hN hL
  replace hN : C.N = 37 := hN
  simp only [Gh.num, List.map_cons, List.map_nil, Nat.reduceAdd]
  have hn := valid_num hv
  have hpos := Nat.two_pow_pos f.ps.length
  have h62 : 2 ^ f.ps.length ≤ 2 ^ 12 := Nat.pow_le_pow_right (by omega) (by omega)
  have hal := allS_i f.ps.length
  have hal1 := Int.le_of_eq hal
  have hal2 := Int.le_of_eq hal.symm
  have hs12 := allS_lt (n := f.ps.length) (by omega)
  have hSl := hS.lt
  repeat refine gwp_seq ?_
  refine gwp_region ?_
  refine n1 110 false (hc := kWf1.h {}) (k := ?_)
  refine v0 (k := ?_)
  refine v0 (k := ?_)
  refine nil0 ?_
  refine cl [1] (k := ?_)
  repeat refine gwp_seq ?_
  refine gwp_region ?_
  refine v0 (k := ?_)
  refine pc0 (spec := r_short_t f hv w hS) (hent := ent21) (k := ?_)
  refine v0 (k := ?_)
  refine v0 (k := ?_)
  refine v0 (k := ?_)
  refine v0 (k := ?_)
  refine v0 (k := ?_)
  refine nil0 ?_
  refine cl [1, 4, 5] (k := ?_)
  repeat refine gwp_seq ?_
  refine gwp_region ?_
  refine v0 (k := ?_)
  refine v0 (k := ?_)
  refine rb 14 false (h := by (first | rfl | decide)) (k := ?_)
  refine nil0 ?_
  repeat refine gwp_seq ?_
  refine cF (k := ?_)
  repeat refine gwp_seq ?_
  refine gwp_skip ?_
  refine cl [1, 4] (k := ?_)
  repeat refine gwp_seq ?_
  refine fz 110 10 [.k, .k, .k, .k, .k, .k, .k, .k, .k, .k] (k := ?_)
  refine gwp_region ?_
  refine v0 (k := ?_)
  refine nil0 ?_
  refine cl [1, 4, 6] (k := ?_)
  repeat refine gwp_seq ?_
  refine gwp_region ?_
  refine v0 (k := ?_)
  refine nil0 ?_
  refine cl [1, 4, 6, 7] (k := ?_)
  repeat refine gwp_seq ?_
  refine gwp_block ?_
  repeat refine gwp_seq ?_
  refine gc_loop (fun mz σ => ∃ k : Nat, (k ≤ 2 ^ f.ps.length) ∧ mz = 2 ^ f.ps.length - k ∧ σ = (sg [(1, .ref 110 0), (4, .p (.int .i64 (w : Nat))), (6, .p (.int .i64 (numR f w k : Nat))), (7, .p (.int .i64 (k : Nat)))] [(110, .cells [.p (.list (f.ps.map pS)), .p (.int .i64 f.el), .p (.int .i64 f.eh), .p (.int .i64 f.nl), .p (.int .i64 f.nh), .p (.int .i64 f.dl), .p (.int .i64 f.dh), .p (.int .i64 f.dep), .p (.int .i64 f.tm), .p (.int .i64 f.gp)] 10)] A [] : Sg E)) ?_ (fun mz σ hI => ?_)
  · refine lbeg [1, 4, 6, 7] (hV := ?_)
    exact ⟨_, 0, by omega, rfl, rfl⟩
  obtain ⟨k, hk, hnn, rfl⟩ := hI
  repeat refine gwp_seq ?_
  refine gwp_region ?_
  refine v0 (k := ?_)
  refine v0 (k := ?_)
  refine v0 (k := ?_)
  refine v0 (k := ?_)
  refine pc0 (spec := r_power f.ps.length (by omega)) (hent := ent42) (k := ?_)
  refine v0 (k := ?_)
  refine nil0 ?_
  repeat refine gwp_seq ?_
  refine cB (k1 := fun hb1 => ?_) (k0 := fun hb1 => ?_)
  · replace hb1 := hB.h {} hb1
    try rw [eqI] at hb1
    repeat refine gwp_seq ?_
    refine gwp_skip ?_
    refine cl [1, 4, 6, 7] (k := ?_)
    repeat refine gwp_seq ?_
    refine gwp_block ?_
    repeat refine gwp_seq ?_
    have hnl := num_le f w k
    refine gwp_region ?_
    refine v0 (k := ?_)
    refine pc0 (spec := r_size k (by omega)) (hent := ent33) (k := ?_)
    refine v0 (k := ?_)
    refine pc0 (spec := r_size w (by omega)) (hent := ent33) (k := ?_)
    refine v0 (k := ?_)
    refine v0 (k := ?_)
    refine b0 (k1 := fun hb2 => ?_) (k0 := fun hb2 => ?_)
    · replace hb2 := hB.h {} hb2
      try rw [eqI] at hb2
      refine w0 (k := ?_)
      refine w0 (k := ?_)
      refine pcw (spec := r_list f hv k (by omega)) (hent := ent53) (k := ?_)
      refine v0 (k := ?_)
      refine nil0 ?_
      repeat refine gwp_seq ?_
      refine cB (k1 := fun hb3 => ?_) (k0 := fun hb3 => ?_)
      · replace hb3 := hB.h {} hb3
        try rw [eqI] at hb3
        repeat refine gwp_seq ?_
        refine gwp_region ?_
        refine v0 (k := ?_)
        refine v1 (hc := kWf1.h {}) (k := ?_)
        refine v0 (k := ?_)
        refine nil0 ?_
        refine cl [1, 4, 6, 7] (k := ?_)
        repeat refine gwp_seq ?_
        refine gwp_region ?_
        refine v0 (k := ?_)
        refine v1 (hc := kWf1.h {}) (k := ?_)
        refine v0 (k := ?_)
        refine nil0 ?_
        refine lend [1, 4, 6, 7] (h := ?_) (hV := ?_) (n' := 2 ^ f.ps.length - (k + 1))
        · omega
        first
        | exact ⟨k + 1, by omega, rfl, sgE (by rw [numR_t (same_t (by omega) (by with_reducible assumption))]; rfl) rfl⟩
        | exact ⟨k + 1, by omega, rfl, sgE (by rw [numR_f (same_f1 (by omega))]; rfl) rfl⟩
        | exact ⟨k + 1, by omega, rfl, sgE (by rw [numR_f (same_f2 (by with_reducible assumption))]; rfl) rfl⟩
      replace hb3 := hB.h {} hb3
      try rw [eqI] at hb3
      repeat refine gwp_seq ?_
      refine gwp_skip ?_
      refine cl [1, 4, 6, 7] (k := ?_)
      repeat refine gwp_seq ?_
      refine gwp_region ?_
      refine v0 (k := ?_)
      refine v1 (hc := kWf1.h {}) (k := ?_)
      refine v0 (k := ?_)
      refine nil0 ?_
      refine lend [1, 4, 6, 7] (h := ?_) (hV := ?_) (n' := 2 ^ f.ps.length - (k + 1))
      · omega
      first
      | exact ⟨k + 1, by omega, rfl, sgE (by rw [numR_t (same_t (by omega) (by with_reducible assumption))]; rfl) rfl⟩
      | exact ⟨k + 1, by omega, rfl, sgE (by rw [numR_f (same_f1 (by omega))]; rfl) rfl⟩
      | exact ⟨k + 1, by omega, rfl, sgE (by rw [numR_f (same_f2 (by with_reducible assumption))]; rfl) rfl⟩
    replace hb2 := hB.h {} hb2
    try rw [eqI] at hb2
    refine x0 (k := ?_)
    refine x0 (k := ?_)
    refine x0 (k := ?_)
    refine v0 (k := ?_)
    refine nil0 ?_
    repeat refine gwp_seq ?_
    refine cF (k := ?_)
    repeat refine gwp_seq ?_
    refine gwp_skip ?_
    refine cl [1, 4, 6, 7] (k := ?_)
    repeat refine gwp_seq ?_
    refine gwp_region ?_
    refine v0 (k := ?_)
    refine v1 (hc := kWf1.h {}) (k := ?_)
    refine v0 (k := ?_)
    refine nil0 ?_
    refine lend [1, 4, 6, 7] (h := ?_) (hV := ?_) (n' := 2 ^ f.ps.length - (k + 1))
    · omega
    first
    | exact ⟨k + 1, by omega, rfl, sgE (by rw [numR_t (same_t (by omega) (by with_reducible assumption))]; rfl) rfl⟩
    | exact ⟨k + 1, by omega, rfl, sgE (by rw [numR_f (same_f1 (by omega))]; rfl) rfl⟩
    | exact ⟨k + 1, by omega, rfl, sgE (by rw [numR_f (same_f2 (by with_reducible assumption))]; rfl) rfl⟩
  replace hb1 := hB.h {} hb1
  try rw [eqI] at hb1
  repeat refine gwp_seq ?_
  refine gwp_exit ?_
  repeat (first | refine gthen_exit ?_ | refine gnoGoto_exit ?_ | refine gblock_here ?_ | refine gblock_out rfl ?_)
  refine cl [6] (k := ?_)
  repeat refine gwp_seq ?_
  refine gwp_region ?_
  refine v0 (k := ?_)
  refine v0 (k := ?_)
  refine v0 (k := ?_)
  refine nil0 ?_
  repeat refine gwp_seq ?_
  refine gwp_ret ?_
  repeat (first | refine gthen_ret ?_ | refine gblock_ret ?_ | refine gnoGoto_ret ?_)
  refine fin_ret ?_
  refine fp2 (hR := ?_)
  obtain rfl : k = 2 ^ f.ps.length := by omega
  rw [cnt_num hv hS]
  rfl
theorem r_lists_n (f : Fd) (hv : f.valid = true) (hq : (listQ f (allS f.ps.length)) = false) : PSpec Try.prog 23 [.agg [.list (f.ps.map pS), .int .i64 f.el, .int .i64 f.eh, .int .i64 f.nl, .int .i64 f.nh, .int .i64 f.dl, .int .i64 f.dh, .int .i64 f.dep, .int .i64 f.tm, .int .i64 f.gp]] (.ok (.tuple [.int .i64 0, .int .i64 4])) := by
  refine pspec_of Try.func23 (rfl : Try.f23.body = some _) rfl ?_
  intro E A C hN hL
  replace hN : C.N = 37 := hN
  simp only [Gh.num, List.map_cons, List.map_nil, Nat.reduceAdd]
  repeat refine gwp_seq ?_
  refine gwp_region ?_
  refine n1 110 false (hc := kWf1.h {}) (k := ?_)
  refine v0 (k := ?_)
  refine v0 (k := ?_)
  refine nil0 ?_
  refine cl [1] (k := ?_)
  repeat refine gwp_seq ?_
  refine gwp_region ?_
  refine v0 (k := ?_)
  refine pc0 (spec := r_short_n f hv hq) (hent := ent21) (k := ?_)
  refine v0 (k := ?_)
  refine v0 (k := ?_)
  refine v0 (k := ?_)
  refine v0 (k := ?_)
  refine v0 (k := ?_)
  refine nil0 ?_
  refine cl [1, 4, 5] (k := ?_)
  repeat refine gwp_seq ?_
  refine gwp_region ?_
  refine v0 (k := ?_)
  refine v0 (k := ?_)
  refine rb 14 true (h := by (first | rfl | decide)) (k := ?_)
  refine nil0 ?_
  repeat refine gwp_seq ?_
  refine cT (k := ?_)
  repeat refine gwp_seq ?_
  refine gwp_region ?_
  refine v0 (k := ?_)
  refine v0 (k := ?_)
  refine v0 (k := ?_)
  refine nil0 ?_
  repeat refine gwp_seq ?_
  refine gwp_ret ?_
  repeat (first | refine gthen_ret ?_ | refine gblock_ret ?_ | refine gnoGoto_ret ?_)
  refine fin_ret ?_
  refine fp2 (hR := ?_)
  rfl
theorem r_lists_f (f : Fd) (hl : f.ps.length ≤ 1048576) (hv : f.valid = false) : PSpec Try.prog 23 [.agg [.list (f.ps.map pS), .int .i64 f.el, .int .i64 f.eh, .int .i64 f.nl, .int .i64 f.nh, .int .i64 f.dl, .int .i64 f.dh, .int .i64 f.dep, .int .i64 f.tm, .int .i64 f.gp]] (.ok (.tuple [.int .i64 0, .int .i64 1])) := by
  refine pspec_of Try.func23 (rfl : Try.f23.body = some _) rfl ?_
  intro E A C hN hL
  replace hN : C.N = 37 := hN
  simp only [Gh.num, List.map_cons, List.map_nil, Nat.reduceAdd]
  repeat refine gwp_seq ?_
  refine gwp_region ?_
  refine n1 110 false (hc := kWf1.h {}) (k := ?_)
  refine v0 (k := ?_)
  refine v0 (k := ?_)
  refine nil0 ?_
  refine cl [1] (k := ?_)
  repeat refine gwp_seq ?_
  refine gwp_region ?_
  refine v0 (k := ?_)
  refine pc0 (spec := r_short_f f hl hv) (hent := ent21) (k := ?_)
  refine v0 (k := ?_)
  refine v0 (k := ?_)
  refine v0 (k := ?_)
  refine v0 (k := ?_)
  refine v0 (k := ?_)
  refine nil0 ?_
  refine cl [1, 4, 5] (k := ?_)
  repeat refine gwp_seq ?_
  refine gwp_region ?_
  refine v0 (k := ?_)
  refine v0 (k := ?_)
  refine rb 14 true (h := by (first | rfl | decide)) (k := ?_)
  refine nil0 ?_
  repeat refine gwp_seq ?_
  refine cT (k := ?_)
  repeat refine gwp_seq ?_
  refine gwp_region ?_
  refine v0 (k := ?_)
  refine v0 (k := ?_)
  refine v0 (k := ?_)
  refine nil0 ?_
  repeat refine gwp_seq ?_
  refine gwp_ret ?_
  repeat (first | refine gthen_ret ?_ | refine gblock_ret ?_ | refine gnoGoto_ret ?_)
  refine fin_ret ?_
  refine fp2 (hR := ?_)
  rfl
theorem ent25 : Enters Try.prog 25 := Enters.mk Try.func25 (by kernel_rfl) rfl
theorem r_need_t (f : Fd) (hv : f.valid = true) (hq : (listQ f (allS f.ps.length)) = true) : PSpec Try.prog 25 [.agg [.list (f.ps.map pS), .int .i64 f.el, .int .i64 f.eh, .int .i64 f.nl, .int .i64 f.nh, .int .i64 f.dl, .int .i64 f.dh, .int .i64 f.dep, .int .i64 f.tm, .int .i64 f.gp]] (.ok (.tuple [.int .i64 (needN f f.ps.length : Nat), .int .i64 0])) := by
  refine pspec_of Try.func25 (rfl : Try.f25.body = some _) rfl ?_
  intro E A C hN hL
  replace hN : C.N = 35 := hN
  simp only [Gh.num, List.map_cons, List.map_nil, Nat.reduceAdd]
  have hn := valid_num hv
  have hpos := Nat.two_pow_pos f.ps.length
  have h62 : 2 ^ f.ps.length ≤ 2 ^ 12 := Nat.pow_le_pow_right (by omega) (by omega)
  have hal := allS_i f.ps.length
  have hal1 := Int.le_of_eq hal
  have hal2 := Int.le_of_eq hal.symm
  have hs12 := allS_lt (n := f.ps.length) (by omega)
  have hqu : listQ f (usedN f f.ps.length) = true := by rw [← list_all]; exact hq
  clear hq
  repeat refine gwp_seq ?_
  refine gwp_region ?_
  refine n1 110 false (hc := kWf1.h {}) (k := ?_)
  refine v0 (k := ?_)
  refine v0 (k := ?_)
  refine nil0 ?_
  refine cl [1] (k := ?_)
  repeat refine gwp_seq ?_
  refine gwp_region ?_
  refine v0 (k := ?_)
  refine pc0 (spec := r_open_t f hv (by rw [list_all]; exact hqu)) (hent := ent52) (k := ?_)
  refine v0 (k := ?_)
  refine v0 (k := ?_)
  refine v0 (k := ?_)
  refine v0 (k := ?_)
  refine v0 (k := ?_)
  refine nil0 ?_
  refine cl [1, 4, 5] (k := ?_)
  repeat refine gwp_seq ?_
  refine gwp_region ?_
  refine v0 (k := ?_)
  refine v0 (k := ?_)
  refine rb 14 false (h := by (first | rfl | decide)) (k := ?_)
  refine nil0 ?_
  repeat refine gwp_seq ?_
  refine cF (k := ?_)
  repeat refine gwp_seq ?_
  refine gwp_skip ?_
  refine cl [1, 4] (k := ?_)
  repeat refine gwp_seq ?_
  refine fz 110 10 [.k, .k, .k, .k, .k, .k, .k, .k, .k, .k] (k := ?_)
  refine gwp_region ?_
  refine v0 (k := ?_)
  refine nil0 ?_
  refine cl [1, 4, 6] (k := ?_)
  repeat refine gwp_seq ?_
  refine gwp_region ?_
  refine v0 (k := ?_)
  refine nil0 ?_
  refine cl [1, 4, 6, 7] (k := ?_)
  repeat refine gwp_seq ?_
  refine gwp_block ?_
  repeat refine gwp_seq ?_
  refine gc_loop (fun mz σ => ∃ k : Nat, (k ≤ f.ps.length) ∧ mz = f.ps.length - k ∧ σ = (sg [(1, .ref 110 0), (4, .p (.int .i64 ((allS f.ps.length) : Nat))), (6, .p (.int .i64 (needN f k : Nat))), (7, .p (.int .i64 (k : Nat)))] [(110, .cells [.p (.list (f.ps.map pS)), .p (.int .i64 f.el), .p (.int .i64 f.eh), .p (.int .i64 f.nl), .p (.int .i64 f.nh), .p (.int .i64 f.dl), .p (.int .i64 f.dh), .p (.int .i64 f.dep), .p (.int .i64 f.tm), .p (.int .i64 f.gp)] 10)] A [] : Sg E)) ?_ (fun mz σ hI => ?_)
  · refine lbeg [1, 4, 6, 7] (hV := ?_)
    exact ⟨_, 0, by omega, rfl, rfl⟩
  obtain ⟨k, hk, hnn, rfl⟩ := hI
  repeat refine gwp_seq ?_
  refine gwp_region ?_
  refine v0 (k := ?_)
  refine v0 (k := ?_)
  refine v0 (k := ?_)
  refine v0 (k := ?_)
  refine v0 (k := ?_)
  refine nil0 ?_
  repeat refine gwp_seq ?_
  refine cB (k1 := fun hb1 => ?_) (k0 := fun hb1 => ?_)
  · replace hb1 := hB.h {} hb1
    try rw [eqI] at hb1
    repeat refine gwp_seq ?_
    refine gwp_skip ?_
    refine cl [1, 4, 6, 7] (k := ?_)
    repeat refine gwp_seq ?_
    refine gwp_block ?_
    repeat refine gwp_seq ?_
    have hnq := needQ_but hv hqu (show k < f.ps.length by omega)
    obtain ⟨hbn, hbp⟩ := but_num (show f.ps.length ≤ 12 by omega) (show k < f.ps.length by omega)
    have hbl := but_lt f k
    have hnl := setN_lt2 (needQ f) k
    have hnl2 : needN f k < 2 ^ k := hnl
    refine rd ?_
    refine d0 0 (k := ?_)
    refine d0 1 (k := ?_)
    refine d0 2 (k := ?_)
    refine dpc0 3 (spec := r_power k (by omega)) (hent := ent42) (k := ?_)
    refine d1 4 (hc := kWf1.h {}) (k := ?_)
    refine dpc0 5 (spec := r_list f hv (butN f k) (by omega)) (hent := ent53) (k := ?_)
    refine d0 6 (k := ?_)
    refine dz 7 [0, 0, 0, 4, 14, 31, 63] (h := ?_)
    refine de 7 (h := ?_)
    repeat refine gwp_seq ?_
    refine cB (k1 := fun hb2 => ?_) (k0 := fun hb2 => ?_)
    · replace hb2 := hB.h {} hb2
      try rw [eqI] at hb2
      repeat refine gwp_seq ?_
      refine gwp_region ?_
      refine v0 (k := ?_)
      refine v0 (k := ?_)
      refine pc0 (spec := r_power k (by omega)) (hent := ent42) (k := ?_)
      refine v1 (hc := kWf1.h {}) (k := ?_)
      refine v0 (k := ?_)
      refine nil0 ?_
      refine cl [1, 4, 6, 7] (k := ?_)
      repeat refine gwp_seq ?_
      refine gwp_region ?_
      refine v0 (k := ?_)
      refine v1 (hc := kWf1.h {}) (k := ?_)
      refine v0 (k := ?_)
      refine nil0 ?_
      refine lend [1, 4, 6, 7] (h := ?_) (hV := ?_) (n' := f.ps.length - (k + 1))
      · omega
      first
      | exact ⟨k + 1, by omega, rfl, sgE (by rw [need_next_t (hnq.trans (by rw [show listQ f (butN f k) = false from by with_reducible assumption]; rfl))]; rfl) rfl⟩
      | exact ⟨k + 1, by omega, rfl, sgE (by rw [need_next_f (hnq.trans (by rw [show listQ f (butN f k) = true from by with_reducible assumption]; rfl))]; rfl) rfl⟩
    replace hb2 := hB.h {} hb2
    try rw [eqI] at hb2
    repeat refine gwp_seq ?_
    refine gwp_skip ?_
    refine cl [1, 4, 6, 7] (k := ?_)
    repeat refine gwp_seq ?_
    refine gwp_region ?_
    refine v0 (k := ?_)
    refine v1 (hc := kWf1.h {}) (k := ?_)
    refine v0 (k := ?_)
    refine nil0 ?_
    refine lend [1, 4, 6, 7] (h := ?_) (hV := ?_) (n' := f.ps.length - (k + 1))
    · omega
    first
    | exact ⟨k + 1, by omega, rfl, sgE (by rw [need_next_t (hnq.trans (by rw [show listQ f (butN f k) = false from by with_reducible assumption]; rfl))]; rfl) rfl⟩
    | exact ⟨k + 1, by omega, rfl, sgE (by rw [need_next_f (hnq.trans (by rw [show listQ f (butN f k) = true from by with_reducible assumption]; rfl))]; rfl) rfl⟩
  replace hb1 := hB.h {} hb1
  try rw [eqI] at hb1
  repeat refine gwp_seq ?_
  refine gwp_exit ?_
  repeat (first | refine gthen_exit ?_ | refine gnoGoto_exit ?_ | refine gblock_here ?_ | refine gblock_out rfl ?_)
  refine cl [6] (k := ?_)
  repeat refine gwp_seq ?_
  refine gwp_region ?_
  refine v0 (k := ?_)
  refine v0 (k := ?_)
  refine v0 (k := ?_)
  refine nil0 ?_
  repeat refine gwp_seq ?_
  refine gwp_ret ?_
  repeat (first | refine gthen_ret ?_ | refine gblock_ret ?_ | refine gnoGoto_ret ?_)
  refine fin_ret ?_
  refine fp2 (hR := ?_)
  obtain rfl : k = f.ps.length := by omega
  rfl
theorem r_need_n (f : Fd) (hv : f.valid = true) (hq : (listQ f (allS f.ps.length)) = false) : PSpec Try.prog 25 [.agg [.list (f.ps.map pS), .int .i64 f.el, .int .i64 f.eh, .int .i64 f.nl, .int .i64 f.nh, .int .i64 f.dl, .int .i64 f.dh, .int .i64 f.dep, .int .i64 f.tm, .int .i64 f.gp]] (.ok (.tuple [.int .i64 0, .int .i64 4])) := by
  refine pspec_of Try.func25 (rfl : Try.f25.body = some _) rfl ?_
  intro E A C hN hL
  replace hN : C.N = 35 := hN
  simp only [Gh.num, List.map_cons, List.map_nil, Nat.reduceAdd]
  repeat refine gwp_seq ?_
  refine gwp_region ?_
  refine n1 110 false (hc := kWf1.h {}) (k := ?_)
  refine v0 (k := ?_)
  refine v0 (k := ?_)
  refine nil0 ?_
  refine cl [1] (k := ?_)
  repeat refine gwp_seq ?_
  refine gwp_region ?_
  refine v0 (k := ?_)
  refine pc0 (spec := r_open_n f hv hq) (hent := ent52) (k := ?_)
  refine v0 (k := ?_)
  refine v0 (k := ?_)
  refine v0 (k := ?_)
  refine v0 (k := ?_)
  refine v0 (k := ?_)
  refine nil0 ?_
  refine cl [1, 4, 5] (k := ?_)
  repeat refine gwp_seq ?_
  refine gwp_region ?_
  refine v0 (k := ?_)
  refine v0 (k := ?_)
  refine rb 14 true (h := by (first | rfl | decide)) (k := ?_)
  refine nil0 ?_
  repeat refine gwp_seq ?_
  refine cT (k := ?_)
  repeat refine gwp_seq ?_
  refine gwp_region ?_
  refine v0 (k := ?_)
  refine v0 (k := ?_)
  refine v0 (k := ?_)
  refine nil0 ?_
  repeat refine gwp_seq ?_
  refine gwp_ret ?_
  repeat (first | refine gthen_ret ?_ | refine gblock_ret ?_ | refine gnoGoto_ret ?_)
  refine fin_ret ?_
  refine fp2 (hR := ?_)
  rfl
theorem r_need_f (f : Fd) (hl : f.ps.length ≤ 1048576) (hv : f.valid = false) : PSpec Try.prog 25 [.agg [.list (f.ps.map pS), .int .i64 f.el, .int .i64 f.eh, .int .i64 f.nl, .int .i64 f.nh, .int .i64 f.dl, .int .i64 f.dh, .int .i64 f.dep, .int .i64 f.tm, .int .i64 f.gp]] (.ok (.tuple [.int .i64 0, .int .i64 1])) := by
  refine pspec_of Try.func25 (rfl : Try.f25.body = some _) rfl ?_
  intro E A C hN hL
  replace hN : C.N = 35 := hN
  simp only [Gh.num, List.map_cons, List.map_nil, Nat.reduceAdd]
  repeat refine gwp_seq ?_
  refine gwp_region ?_
  refine n1 110 false (hc := kWf1.h {}) (k := ?_)
  refine v0 (k := ?_)
  refine v0 (k := ?_)
  refine nil0 ?_
  refine cl [1] (k := ?_)
  repeat refine gwp_seq ?_
  refine gwp_region ?_
  refine v0 (k := ?_)
  refine pc0 (spec := r_open_f f hl hv) (hent := ent52) (k := ?_)
  refine v0 (k := ?_)
  refine v0 (k := ?_)
  refine v0 (k := ?_)
  refine v0 (k := ?_)
  refine v0 (k := ?_)
  refine nil0 ?_
  refine cl [1, 4, 5] (k := ?_)
  repeat refine gwp_seq ?_
  refine gwp_region ?_
  refine v0 (k := ?_)
  refine v0 (k := ?_)
  refine rb 14 true (h := by (first | rfl | decide)) (k := ?_)
  refine nil0 ?_
  repeat refine gwp_seq ?_
  refine cT (k := ?_)
  repeat refine gwp_seq ?_
  refine gwp_region ?_
  refine v0 (k := ?_)
  refine v0 (k := ?_)
  refine v0 (k := ?_)
  refine nil0 ?_
  repeat refine gwp_seq ?_
  refine gwp_ret ?_
  repeat (first | refine gthen_ret ?_ | refine gblock_ret ?_ | refine gnoGoto_ret ?_)
  refine fin_ret ?_
  refine fp2 (hR := ?_)
  rfl
theorem cur_len {f : Fd} (hv : f.valid = true) {i j : Nat} (hi : i < wid f) (hj : j ≤ hgt f) : (curL f i j).length ≤ 1089 := by
  obtain ⟨t, h⟩ := cur_pre f hi hj
  have h1 := pls_len hv
  rw [h, List.length_append] at h1
  omega
theorem ent62 : Enters Try.prog 62 := Enters.mk Try.func62 (by kernel_rfl) rfl
theorem r_allp (f : Fd) (hv : f.valid = true) : PSpec Try.prog 62 [.agg [.list (f.ps.map pS), .int .i64 f.el, .int .i64 f.eh, .int .i64 f.nl, .int .i64 f.nh, .int .i64 f.dl, .int .i64 f.dh, .int .i64 f.dep, .int .i64 f.tm, .int .i64 f.gp]] (.ok (.list ((plsL f).map fun e : Int × Int => P.agg [.int .i64 e.1, .int .i64 e.2]))) := by
  refine pspec_of Try.func62 (rfl : Try.f62.body = some _) rfl ?_
  intro E A C hN hL
  replace hN : C.N = 33 := hN
  simp only [Gh.num, List.map_cons, List.map_nil, Nat.reduceAdd]
  have hn := valid_num hv
  have hwid : ((wid f : Nat) : Int) = f.eh - f.el + 1 := by simp only [wid]; omega
  have hhgt : ((hgt f : Nat) : Int) = f.nh - f.nl + 1 := by simp only [hgt]; omega
  have hpS : ∀ p : Sk, pS p = P.agg [.int .i64 p.el, .int .i64 p.eh, .int .i64 p.nl, .int .i64 p.nh, .int .i64 p.day, .int .i64 p.dep] := fun _ => rfl
  repeat refine gwp_seq ?_
  refine gwp_region ?_
  refine n1 110 false (hc := kWf2.h {}) (k := ?_)
  refine v0 (k := ?_)
  refine nil0 ?_
  refine cl [1] (k := ?_)
  repeat refine gwp_seq ?_
  refine gwp_region ?_
  refine v0 (k := ?_)
  refine nil0 ?_
  refine cl [1, 3] (k := ?_)
  repeat refine gwp_seq ?_
  refine gc_adoptR 3 3000 51 2 true (by simp only [mkFr_cons, Nat.reduceEqDiff, reduceIte]) (by simp only [mkHp_cons, mkHp_nil, Nat.reduceEqDiff, reduceIte]) (by omega) ?_
  refine fz 110 10 [.k, .k, .k, .k, .k, .k, .k, .k, .k, .k] (k := ?_)
  refine gwp_region ?_
  refine v0 (k := ?_)
  refine v0 (k := ?_)
  refine v0 (k := ?_)
  refine v0 (k := ?_)
  refine nil0 ?_
  refine cl [1, 3, 4] (k := ?_)
  repeat refine gwp_seq ?_
  refine gwp_block ?_
  repeat refine gwp_seq ?_
  refine gc_loop (fun mz σ => ∃ i : Nat, (i ≤ wid f) ∧ mz = wid f - i ∧ σ = (sg [(1, .ref 110 0), (3, .own 3000 (curL f i 0).length), (4, .p (.int .i64 (f.el + (i : Nat))))] [(110, .cells [.p (.list (f.ps.map pS)), .p (.int .i64 f.el), .p (.int .i64 f.eh), .p (.int .i64 f.nl), .p (.int .i64 f.nh), .p (.int .i64 f.dl), .p (.int .i64 f.dh), .p (.int .i64 f.dep), .p (.int .i64 f.tm), .p (.int .i64 f.gp)] 10), (3000, .arr 51 2 ((curL f i 0).map fun e : Int × Int => P.agg [.int .i64 e.1, .int .i64 e.2]) true)] A [] : Sg E)) ?_ (fun mz σ hI => ?_)
  · refine lbeg [1, 3, 4] (hV := ?_)
    exact ⟨_, 0, by omega, rfl, sgE (by rw [Int.natCast_zero, Int.add_zero]; rfl) rfl⟩
  obtain ⟨i, hi, hnn, rfl⟩ := hI
  repeat refine gwp_seq ?_
  refine gwp_region ?_
  refine v0 (k := ?_)
  refine v0 (k := ?_)
  refine v0 (k := ?_)
  refine v0 (k := ?_)
  refine v0 (k := ?_)
  refine nil0 ?_
  repeat refine gwp_seq ?_
  refine cB (k1 := fun hb1 => ?_) (k0 := fun hb1 => ?_)
  · replace hb1 := hB.h {} hb1
    try rw [eqI] at hb1
    repeat refine gwp_seq ?_
    refine gwp_skip ?_
    refine cl [1, 3, 4] (k := ?_)
    repeat refine gwp_seq ?_
    refine gwp_block ?_
    repeat refine gwp_seq ?_
    refine gwp_region ?_
    refine v0 (k := ?_)
    refine v0 (k := ?_)
    refine v0 (k := ?_)
    refine v0 (k := ?_)
    refine nil0 ?_
    refine cl [1, 3, 4, 5] (k := ?_)
    repeat refine gwp_seq ?_
    refine gwp_block ?_
    repeat refine gwp_seq ?_
    refine gc_loop (fun mz σ => ∃ j : Nat, (j ≤ hgt f) ∧ mz = hgt f - j ∧ σ = (sg [(1, .ref 110 0), (3, .own 3000 (curL f i j).length), (4, .p (.int .i64 (f.el + (i : Nat)))), (5, .p (.int .i64 (f.nl + (j : Nat))))] [(110, .cells [.p (.list (f.ps.map pS)), .p (.int .i64 f.el), .p (.int .i64 f.eh), .p (.int .i64 f.nl), .p (.int .i64 f.nh), .p (.int .i64 f.dl), .p (.int .i64 f.dh), .p (.int .i64 f.dep), .p (.int .i64 f.tm), .p (.int .i64 f.gp)] 10), (3000, .arr 51 2 ((curL f i j).map fun e : Int × Int => P.agg [.int .i64 e.1, .int .i64 e.2]) true)] A [] : Sg E)) ?_ (fun mz σ hI => ?_)
    · refine lbeg [1, 3, 4, 5] (hV := ?_)
      exact ⟨_, 0, by omega, rfl, sgE (by rw [Int.natCast_zero, Int.add_zero]) rfl⟩
    obtain ⟨j, hj, hnn2, rfl⟩ := hI
    repeat refine gwp_seq ?_
    refine gwp_region ?_
    refine v0 (k := ?_)
    refine v0 (k := ?_)
    refine v0 (k := ?_)
    refine v0 (k := ?_)
    refine v0 (k := ?_)
    refine nil0 ?_
    repeat refine gwp_seq ?_
    refine cB (k1 := fun hb2 => ?_) (k0 := fun hb2 => ?_)
    · replace hb2 := hB.h {} hb2
      try rw [eqI] at hb2
      repeat refine gwp_seq ?_
      refine gwp_skip ?_
      refine cl [1, 3, 4, 5] (k := ?_)
      repeat refine gwp_seq ?_
      refine gwp_block ?_
      repeat refine gwp_seq ?_
      have hcl := cur_len hv (show i < wid f by omega) (show j ≤ hgt f by omega)
      refine gwp_region ?_
      refine v0 (k := ?_)
      refine v0 (k := ?_)
      refine v0 (k := ?_)
      refine v0 (k := ?_)
      refine n1 400 false (hc := kWf2.h {}) (k := ?_)
      refine n1 410 false (hc := kWf2.h {}) (k := ?_)
      refine v0 (k := ?_)
      refine nil0 ?_
      refine cl [1, 3, 4, 5] (k := ?_)
      repeat refine gwp_seq ?_
      refine gwp_region ?_
      refine v0 (k := ?_)
      refine v1 (hc := kWf2.h {}) (k := ?_)
      refine v0 (k := ?_)
      refine nil0 ?_
      refine lend [1, 3, 4, 5] (h := ?_) (hV := ?_) (n' := hgt f - (j + 1))
      · omega
      exact ⟨j + 1, by omega, rfl, sgE (by rw [show f.nl + ((j + 1 : Nat) : Int) = f.nl + (j : Nat) + 1 by omega, cur_next, List.length_append]; rfl) (by rw [cur_next, List.map_append]; rfl)⟩
    replace hb2 := hB.h {} hb2
    try rw [eqI] at hb2
    repeat refine gwp_seq ?_
    refine gwp_exit ?_
    repeat (first | refine gthen_exit ?_ | refine gnoGoto_exit ?_ | refine gblock_here ?_ | refine gblock_out rfl ?_)
    refine cl [1, 3, 4] (k := ?_)
    repeat refine gwp_seq ?_
    obtain rfl : j = hgt f := by omega
    rw [cur_row]
    refine gwp_region ?_
    refine v0 (k := ?_)
    refine v1 (hc := kWf2.h {}) (k := ?_)
    refine v0 (k := ?_)
    refine nil0 ?_
    refine lend [1, 3, 4] (h := ?_) (hV := ?_) (n' := wid f - (i + 1))
    · omega
    exact ⟨i + 1, by omega, rfl, sgE (by rw [show f.el + ((i + 1 : Nat) : Int) = f.el + (i : Nat) + 1 by omega]) rfl⟩
  replace hb1 := hB.h {} hb1
  try rw [eqI] at hb1
  repeat refine gwp_seq ?_
  refine gwp_exit ?_
  repeat (first | refine gthen_exit ?_ | refine gnoGoto_exit ?_ | refine gblock_here ?_ | refine gblock_out rfl ?_)
  refine cl [3] (k := ?_)
  repeat refine gwp_seq ?_
  refine gwp_region ?_
  refine v0 (k := ?_)
  refine v0 (k := ?_)
  refine nil0 ?_
  repeat refine gwp_seq ?_
  refine gwp_ret ?_
  repeat (first | refine gthen_ret ?_ | refine gblock_ret ?_ | refine gnoGoto_ret ?_)
  refine fin_ret ?_
  refine fp (hR := ?_)
  obtain rfl : i = wid f := by omega
  rw [cur_all]
  rfl
theorem all_snoc {α : Type} {q : α → Bool} {l : List α} {k : Nat} {x : α} (hx : l[k]? = some x) : (l.take (k + 1)).all q = ((l.take k).all q && q x) := by
  rw [List.take_add_one, hx, Option.toList_some, List.all_append, List.all_cons, List.all_nil, Bool.and_true]
theorem ent61 : Enters Try.prog 61 := Enters.mk Try.func61 (by kernel_rfl) rfl
theorem r_far (f : Fd) (hl : f.ps.length ≤ 1048576) (l : List Pl) (hll : l.length ≤ 1089) (n i : Nat) (hi : i + n = l.length) (b : List Pl) (hb : b.length ≤ i) : PSpec Try.prog 61 [.agg [.list (f.ps.map pS), .int .i64 f.el, .int .i64 f.eh, .int .i64 f.nl, .int .i64 f.nh, .int .i64 f.dl, .int .i64 f.dh, .int .i64 f.dep, .int .i64 f.tm, .int .i64 f.gp], .list (l.map fun e : Int × Int => P.agg [.int .i64 e.1, .int .i64 e.2]), .int .i64 (i : Nat), .list (b.map fun e : Int × Int => P.agg [.int .i64 e.1, .int .i64 e.2])] (.ok (.list ((lpR f b b (l.drop i)).map fun e : Int × Int => P.agg [.int .i64 e.1, .int .i64 e.2]))) := by
  induction n using Nat.strongRecOn generalizing i b with | _ n ih => ?_
  refine pspec_of Try.func61 (rfl : Try.f61.body = some _) rfl ?_
  intro E A C hN hL
  replace hN : C.N = 64 := hN
  simp only [Gh.num, List.map_cons, List.map_nil, Nat.reduceAdd]
  have hpS : ∀ p : Sk, pS p = P.agg [.int .i64 p.el, .int .i64 p.eh, .int .i64 p.nl, .int .i64 p.nh, .int .i64 p.day, .int .i64 p.dep] := fun _ => rfl
  repeat refine gwp_seq ?_
  refine gwp_region ?_
  refine n1 140 false (hc := kWf2.h {}) (k := ?_)
  refine v0 (k := ?_)
  refine nil0 ?_
  refine cl [1, 2, 3, 4] (k := ?_)
  repeat refine gwp_seq ?_
  refine fz 140 10 [.k, .k, .k, .k, .k, .k, .k, .k, .k, .k] (k := ?_)
  refine gwp_region ?_
  refine v0 (k := ?_)
  refine v0 (k := ?_)
  refine nil0 ?_
  refine cl [1, 2, 3, 4, 9] (k := ?_)
  repeat refine gwp_seq ?_
  refine gwp_region ?_
  refine v0 (k := ?_)
  refine v0 (k := ?_)
  refine nil0 ?_
  refine cl [1, 3, 4, 9, 10] (k := ?_)
  repeat refine gwp_seq ?_
  refine gwp_block ?_
  repeat refine gwp_seq ?_
  refine gc_loop (fun mz σ => ∃ (k : Nat) (bst : List Pl), (i ≤ k ∧ k ≤ l.length) ∧ (lpR f b bst (l.drop k) = lpR f b b (l.drop i)) ∧ (bst.length ≤ l.length) ∧ mz = l.length - k ∧ σ = (sg [(1, .p (.list (l.map fun e : Int × Int => P.agg [.int .i64 e.1, .int .i64 e.2]))), (3, .p (.list (b.map fun e : Int × Int => P.agg [.int .i64 e.1, .int .i64 e.2]))), (4, .ref 140 0), (9, .p (.list (bst.map fun e : Int × Int => P.agg [.int .i64 e.1, .int .i64 e.2]))), (10, .p (.int .i64 (k : Nat)))] [(140, .cells [.p (.list (f.ps.map pS)), .p (.int .i64 f.el), .p (.int .i64 f.eh), .p (.int .i64 f.nl), .p (.int .i64 f.nh), .p (.int .i64 f.dl), .p (.int .i64 f.dh), .p (.int .i64 f.dep), .p (.int .i64 f.tm), .p (.int .i64 f.gp)] 10)] A [] : Sg E)) ?_ (fun mz σ hI => ?_)
  · refine lbeg [1, 3, 4, 9, 10] (hV := ?_)
    exact ⟨_, i, b, by omega, rfl, by omega, rfl, rfl⟩
  obtain ⟨k, bst, hk, hq, hbs, hnn, rfl⟩ := hI
  repeat refine gwp_seq ?_
  refine gwp_region ?_
  refine v0 (k := ?_)
  refine v0 (k := ?_)
  refine v0 (k := ?_)
  refine v0 (k := ?_)
  refine nil0 ?_
  repeat refine gwp_seq ?_
  refine cB (k1 := fun hb1 => ?_) (k0 := fun hb1 => ?_)
  · replace hb1 := hB.h {} hb1
    try rw [eqI] at hb1
    repeat refine gwp_seq ?_
    refine gwp_skip ?_
    refine cl [1, 3, 4, 9, 10] (k := ?_)
    repeat refine gwp_seq ?_
    refine gwp_block ?_
    repeat refine gwp_seq ?_
    obtain ⟨p, hp⟩ := getE (l := l) (k := k) (by omega)
    have hkl := (List.getElem?_eq_some_iff.1 hp).1
    have hdr : l.drop k = p :: l.drop (k + 1) := by rw [List.drop_eq_getElem_cons hkl]; congr 1; exact Option.some.inj (by rw [← hp, List.getElem?_eq_getElem hkl])
    refine gwp_region ?_
    refine v0 (k := ?_)
    refine nil0 ?_
    refine cl [1, 3, 4, 9, 10, 11] (k := ?_)
    repeat refine gwp_seq ?_
    refine gwp_region ?_
    refine v0 (k := ?_)
    refine nil0 ?_
    refine cl [1, 3, 4, 9, 10, 11, 12] (k := ?_)
    repeat refine gwp_seq ?_
    refine gwp_block ?_
    repeat refine gwp_seq ?_
    refine gc_loop (fun mz σ => ∃ j : Nat, (j ≤ b.length) ∧ mz = b.length - j ∧ σ = (sg [(1, .p (.list (l.map fun e : Int × Int => P.agg [.int .i64 e.1, .int .i64 e.2]))), (3, .p (.list (b.map fun e : Int × Int => P.agg [.int .i64 e.1, .int .i64 e.2]))), (4, .ref 140 0), (9, .p (.list (bst.map fun e : Int × Int => P.agg [.int .i64 e.1, .int .i64 e.2]))), (10, .p (.int .i64 (k : Nat))), (11, .p (.bool ((b.take j).all fun q => !togQ f q p))), (12, .p (.int .i64 (j : Nat)))] [(140, .cells [.p (.list (f.ps.map pS)), .p (.int .i64 f.el), .p (.int .i64 f.eh), .p (.int .i64 f.nl), .p (.int .i64 f.nh), .p (.int .i64 f.dl), .p (.int .i64 f.dh), .p (.int .i64 f.dep), .p (.int .i64 f.tm), .p (.int .i64 f.gp)] 10)] A [] : Sg E)) ?_ (fun mz σ hI => ?_)
    · refine lbeg [1, 3, 4, 9, 10, 11, 12] (hV := ?_)
      exact ⟨_, 0, by omega, rfl, rfl⟩
    obtain ⟨j, hj, hnn2, rfl⟩ := hI
    repeat refine gwp_seq ?_
    refine gwp_region ?_
    refine v0 (k := ?_)
    refine v0 (k := ?_)
    refine v0 (k := ?_)
    refine v0 (k := ?_)
    refine nil0 ?_
    repeat refine gwp_seq ?_
    refine cB (k1 := fun hb2 => ?_) (k0 := fun hb2 => ?_)
    · replace hb2 := hB.h {} hb2
      try rw [eqI] at hb2
      repeat refine gwp_seq ?_
      refine gwp_skip ?_
      refine cl [1, 3, 4, 9, 10, 11, 12] (k := ?_)
      repeat refine gwp_seq ?_
      refine gwp_block ?_
      repeat refine gwp_seq ?_
      obtain ⟨q, hqj⟩ := getE (l := b) (k := j) (by omega)
      refine rd ?_
      refine da0 0 (k := ?_)
      refine da0 1 (k := ?_)
      refine db0 2 29 (k1 := fun hb3 => ?_) (k0 := fun hb3 => ?_)
      · replace hb3 := hB.h {} hb3
        try rw [eqI] at hb3
        refine dw0 2 (k := ?_)
        refine dw0 3 (k := ?_)
        refine dw0 4 (k := ?_)
        refine dw1 5 (hc := kWf2.h {}) (k := ?_)
        refine dw0 6 (k := ?_)
        refine dw0 7 (k := ?_)
        refine dw0 8 (k := ?_)
        refine dw1 9 (hc := kWf2.h {}) (k := ?_)
        refine dw0 10 (k := ?_)
        refine dpcw 11 (spec := r_tog f hl q p) (hent := ent36) (k := ?_)
        refine dw0 12 (k := ?_)
        refine da0 13 (k := ?_)
        refine da0 14 (k := ?_)
        refine dz 15 [0, 1, 3, 3, 3, 27, 59, 3, 3, 387, 899, 2047, 4095, 8191, 16383] (h := ?_)
        refine de 15 (h := ?_)
        refine cl [1, 3, 4, 9, 10, 11, 12] (k := ?_)
        repeat refine gwp_seq ?_
        refine gwp_region ?_
        refine v0 (k := ?_)
        refine v1 (hc := kWf2.h {}) (k := ?_)
        refine v0 (k := ?_)
        refine nil0 ?_
        refine lend [1, 3, 4, 9, 10, 11, 12] (h := ?_) (hV := ?_) (n' := b.length - (j + 1))
        · omega
        first
        | exact ⟨j + 1, by omega, rfl, sgE (by rw [all_snoc hqj, show ((b.take j).all fun q => !togQ f q p) = true from by with_reducible assumption, Bool.true_and]; rfl) rfl⟩
        | exact ⟨j + 1, by omega, rfl, sgE (by rw [all_snoc hqj, show ((b.take j).all fun q => !togQ f q p) = false from by with_reducible assumption, Bool.false_and]; rfl) rfl⟩
      replace hb3 := hB.h {} hb3
      try rw [eqI] at hb3
      refine dx0 2 (k := ?_)
      refine dx0 3 (k := ?_)
      refine dx0 4 (k := ?_)
      refine dx0 5 (k := ?_)
      refine dx0 6 (k := ?_)
      refine dx0 7 (k := ?_)
      refine dx0 8 (k := ?_)
      refine dx0 9 (k := ?_)
      refine dx0 10 (k := ?_)
      refine dx0 11 (k := ?_)
      refine dx0 12 (k := ?_)
      refine da0 13 (k := ?_)
      refine da0 14 (k := ?_)
      refine dz 15 [0, 1, 3, 3, 3, 27, 59, 3, 3, 387, 899, 2047, 4095, 8191, 16383] (h := ?_)
      refine de 15 (h := ?_)
      refine cl [1, 3, 4, 9, 10, 11, 12] (k := ?_)
      repeat refine gwp_seq ?_
      refine gwp_region ?_
      refine v0 (k := ?_)
      refine v1 (hc := kWf2.h {}) (k := ?_)
      refine v0 (k := ?_)
      refine nil0 ?_
      refine lend [1, 3, 4, 9, 10, 11, 12] (h := ?_) (hV := ?_) (n' := b.length - (j + 1))
      · omega
      first
      | exact ⟨j + 1, by omega, rfl, sgE (by rw [all_snoc hqj, show ((b.take j).all fun q => !togQ f q p) = true from by with_reducible assumption, Bool.true_and]; rfl) rfl⟩
      | exact ⟨j + 1, by omega, rfl, sgE (by rw [all_snoc hqj, show ((b.take j).all fun q => !togQ f q p) = false from by with_reducible assumption, Bool.false_and]; rfl) rfl⟩
    replace hb2 := hB.h {} hb2
    try rw [eqI] at hb2
    repeat refine gwp_seq ?_
    refine gwp_exit ?_
    repeat (first | refine gthen_exit ?_ | refine gnoGoto_exit ?_ | refine gblock_here ?_ | refine gblock_out rfl ?_)
    refine cl [1, 3, 4, 9, 10, 11] (k := ?_)
    repeat refine gwp_seq ?_
    obtain rfl : j = b.length := by omega
    rw [List.take_length]
    refine gwp_region ?_
    refine v0 (k := ?_)
    refine nil0 ?_
    repeat refine gwp_seq ?_
    refine cB (k1 := fun hb4 => ?_) (k0 := fun hb4 => ?_)
    · replace hb4 := hB.h {} hb4
      try rw [eqI] at hb4
      repeat refine gwp_seq ?_
      have hi2 := ih (l.length - (k + 1)) (by omega) (k + 1) (by omega) (b ++ [p]) (by rw [List.length_append, List.length_cons, List.length_nil]; omega)
      simp only [List.map_append, List.map_cons, List.map_nil, Int.natCast_add, Int.natCast_one] at hi2
      have hxl := lp_len (f := f) (l.drop (k + 1)) (b ++ [p]) (b ++ [p]) l.length (by rw [List.length_append, List.length_cons, List.length_nil]; omega) (by rw [List.length_append, List.length_cons, List.length_nil, List.length_drop]; omega)
      have hfr : freeB f b p = true := by rw [freeB]; with_reducible assumption
      refine rd ?_
      refine d0 0 (k := ?_)
      refine da0 1 (k := ?_)
      refine da0 2 (k := ?_)
      refine d1 3 (hc := kWf2.h {}) (k := ?_)
      refine dn1 4 570 false (hc := kWf2.h {}) (k := ?_)
      refine da0 5 (k := ?_)
      refine dn1 6 590 false (hc := kWf2.h {}) (k := ?_)
      refine da0 7 (k := ?_)
      refine da0 8 (k := ?_)
      refine d1 9 (hc := kWf2.h {}) (k := ?_)
      refine d0 10 (k := ?_)
      refine dn1 11 640 false (hc := kWf2.h {}) (k := ?_)
      refine dn1 12 650 false (hc := kWf2.h {}) (k := ?_)
      refine dpc0 13 (spec := hi2) (hent := ent61) (k := ?_)
      refine da0 14 (k := ?_)
      refine dz 15 [0, 0, 0, 4, 0, 0, 48, 0, 0, 384, 896, 1920, 4080, 8191, 16383] (h := ?_)
      refine de 15 (h := ?_)
      refine cl [1, 3, 4, 9, 10, 13] (k := ?_)
      repeat refine gwp_seq ?_
      refine gwp_region ?_
      refine v0 (k := ?_)
      refine v0 (k := ?_)
      refine v0 (k := ?_)
      refine v0 (k := ?_)
      refine v0 (k := ?_)
      refine nil0 ?_
      repeat refine gwp_seq ?_
      refine cB (k1 := fun hb5 => ?_) (k0 := fun hb5 => ?_)
      · replace hb5 := hB.h {} hb5
        try rw [eqI] at hb5
        repeat refine gwp_seq ?_
        refine gwp_region ?_
        refine v0 (k := ?_)
        refine v0 (k := ?_)
        refine nil0 ?_
        refine cl [1, 3, 4, 9, 10] (k := ?_)
        repeat refine gwp_seq ?_
        refine gwp_region ?_
        refine v0 (k := ?_)
        refine v1 (hc := kWf2.h {}) (k := ?_)
        refine v0 (k := ?_)
        refine nil0 ?_
        refine lend [1, 3, 4, 9, 10] (h := ?_) (hV := ?_) (n' := l.length - (k + 1))
        · omega
        rw [hdr] at hq
        first
        | exact ⟨k + 1, _, by omega, (lp_a hfr (by omega)).symm.trans hq, hxl, rfl, rfl⟩
        | exact ⟨k + 1, bst, by omega, (lp_b hfr (by omega)).symm.trans hq, hbs, rfl, rfl⟩
        | exact ⟨k + 1, bst, by omega, (lp_c (by rw [freeB]; with_reducible assumption)).symm.trans hq, hbs, rfl, rfl⟩
      replace hb5 := hB.h {} hb5
      try rw [eqI] at hb5
      repeat refine gwp_seq ?_
      refine gwp_skip ?_
      refine cl [1, 3, 4, 9, 10] (k := ?_)
      repeat refine gwp_seq ?_
      refine gwp_region ?_
      refine v0 (k := ?_)
      refine v1 (hc := kWf2.h {}) (k := ?_)
      refine v0 (k := ?_)
      refine nil0 ?_
      refine lend [1, 3, 4, 9, 10] (h := ?_) (hV := ?_) (n' := l.length - (k + 1))
      · omega
      rw [hdr] at hq
      first
      | exact ⟨k + 1, _, by omega, (lp_a hfr (by omega)).symm.trans hq, hxl, rfl, rfl⟩
      | exact ⟨k + 1, bst, by omega, (lp_b hfr (by omega)).symm.trans hq, hbs, rfl, rfl⟩
      | exact ⟨k + 1, bst, by omega, (lp_c (by rw [freeB]; with_reducible assumption)).symm.trans hq, hbs, rfl, rfl⟩
    replace hb4 := hB.h {} hb4
    try rw [eqI] at hb4
    repeat refine gwp_seq ?_
    refine gwp_skip ?_
    refine cl [1, 3, 4, 9, 10] (k := ?_)
    repeat refine gwp_seq ?_
    refine gwp_region ?_
    refine v0 (k := ?_)
    refine v1 (hc := kWf2.h {}) (k := ?_)
    refine v0 (k := ?_)
    refine nil0 ?_
    refine lend [1, 3, 4, 9, 10] (h := ?_) (hV := ?_) (n' := l.length - (k + 1))
    · omega
    rw [hdr] at hq
    first
    | exact ⟨k + 1, _, by omega, (lp_a hfr (by omega)).symm.trans hq, hxl, rfl, rfl⟩
    | exact ⟨k + 1, bst, by omega, (lp_b hfr (by omega)).symm.trans hq, hbs, rfl, rfl⟩
    | exact ⟨k + 1, bst, by omega, (lp_c (by rw [freeB]; with_reducible assumption)).symm.trans hq, hbs, rfl, rfl⟩
  replace hb1 := hB.h {} hb1
  try rw [eqI] at hb1
  repeat refine gwp_seq ?_
  refine gwp_exit ?_
  repeat (first | refine gthen_exit ?_ | refine gnoGoto_exit ?_ | refine gblock_here ?_ | refine gblock_out rfl ?_)
  refine cl [9] (k := ?_)
  repeat refine gwp_seq ?_
  refine gwp_region ?_
  refine v0 (k := ?_)
  refine v0 (k := ?_)
  refine nil0 ?_
  repeat refine gwp_seq ?_
  refine gwp_ret ?_
  repeat (first | refine gthen_ret ?_ | refine gblock_ret ?_ | refine gnoGoto_ret ?_)
  refine fin_ret ?_
  refine fp (hR := ?_)
  rw [List.drop_eq_nil_of_le (show l.length ≤ k by omega)] at hq
  rw [← hq]
  rfl
theorem ent27 : Enters Try.prog 27 := Enters.mk Try.func27 (by kernel_rfl) rfl
theorem r_apart_t (f : Fd) (hv : f.valid = true) (hq : (listQ f (allS f.ps.length)) = true) : PSpec Try.prog 27 [.agg [.list (f.ps.map pS), .int .i64 f.el, .int .i64 f.eh, .int .i64 f.nl, .int .i64 f.nh, .int .i64 f.dl, .int .i64 f.dh, .int .i64 f.dep, .int .i64 f.tm, .int .i64 f.gp]] (.ok (.tuple [.list ((apL f (allS f.ps.length)).map fun e : Int × Int => P.agg [.int .i64 e.1, .int .i64 e.2]), .int .i64 0])) := by
  refine pspec_of Try.func27 (rfl : Try.f27.body = some _) rfl ?_
  intro E A C hN hL
  replace hN : C.N = 18 := hN
  simp only [Gh.num, List.map_cons, List.map_nil, Nat.reduceAdd]
  have hn := valid_num hv
  have hpl := pls_len hv
  have hfa := r_far f (by omega) (plsL f) hpl _ 0 (Nat.zero_add _) [] (Nat.le_refl _)
  rw [List.drop_zero, lp_ap hv hq] at hfa
  repeat refine gwp_seq ?_
  refine gwp_region ?_
  refine n1 110 false (hc := kWf1.h {}) (k := ?_)
  refine v0 (k := ?_)
  refine v0 (k := ?_)
  refine nil0 ?_
  refine cl [1] (k := ?_)
  repeat refine gwp_seq ?_
  refine gwp_region ?_
  refine v0 (k := ?_)
  refine pc0 (spec := r_open_t f hv hq) (hent := ent52) (k := ?_)
  refine v0 (k := ?_)
  refine v0 (k := ?_)
  refine v0 (k := ?_)
  refine v0 (k := ?_)
  refine v0 (k := ?_)
  refine nil0 ?_
  refine cl [1, 5] (k := ?_)
  repeat refine gwp_seq ?_
  refine gwp_region ?_
  refine v0 (k := ?_)
  refine v0 (k := ?_)
  refine rb 12 false (h := by (first | rfl | decide)) (k := ?_)
  refine nil0 ?_
  repeat refine gwp_seq ?_
  refine cF (k := ?_)
  repeat refine gwp_seq ?_
  refine gwp_skip ?_
  refine cl [1] (k := ?_)
  repeat refine gwp_seq ?_
  refine rd ?_
  refine d0 0 (k := ?_)
  refine d0 1 (k := ?_)
  refine dpc0 2 (spec := r_allp f hv) (hent := ent62) (k := ?_)
  refine dpc0 3 (spec := hfa) (hent := ent61) (k := ?_)
  refine d0 4 (k := ?_)
  refine d0 5 (k := ?_)
  refine dz 6 [0, 0, 2, 7, 15, 31] (h := ?_)
  refine de 6 (h := ?_)
  repeat refine gwp_seq ?_
  refine gwp_ret ?_
  repeat (first | refine gthen_ret ?_ | refine gblock_ret ?_ | refine gnoGoto_ret ?_)
  refine fin_ret ?_
  refine fp2 (hR := ?_)
  rfl
theorem r_apart_n (f : Fd) (hv : f.valid = true) (hq : (listQ f (allS f.ps.length)) = false) : PSpec Try.prog 27 [.agg [.list (f.ps.map pS), .int .i64 f.el, .int .i64 f.eh, .int .i64 f.nl, .int .i64 f.nh, .int .i64 f.dl, .int .i64 f.dh, .int .i64 f.dep, .int .i64 f.tm, .int .i64 f.gp]] (.ok (.tuple [.list [], .int .i64 4])) := by
  refine pspec_of Try.func27 (rfl : Try.f27.body = some _) rfl ?_
  intro E A C hN hL
  replace hN : C.N = 18 := hN
  simp only [Gh.num, List.map_cons, List.map_nil, Nat.reduceAdd]
  repeat refine gwp_seq ?_
  refine gwp_region ?_
  refine n1 110 false (hc := kWf1.h {}) (k := ?_)
  refine v0 (k := ?_)
  refine v0 (k := ?_)
  refine nil0 ?_
  refine cl [1] (k := ?_)
  repeat refine gwp_seq ?_
  refine gwp_region ?_
  refine v0 (k := ?_)
  refine pc0 (spec := r_open_n f hv hq) (hent := ent52) (k := ?_)
  refine v0 (k := ?_)
  refine v0 (k := ?_)
  refine v0 (k := ?_)
  refine v0 (k := ?_)
  refine v0 (k := ?_)
  refine nil0 ?_
  refine cl [1, 5] (k := ?_)
  repeat refine gwp_seq ?_
  refine gwp_region ?_
  refine v0 (k := ?_)
  refine v0 (k := ?_)
  refine rb 12 true (h := by (first | rfl | decide)) (k := ?_)
  refine nil0 ?_
  repeat refine gwp_seq ?_
  refine cT (k := ?_)
  repeat refine gwp_seq ?_
  refine gwp_region ?_
  refine v0 (k := ?_)
  refine v0 (k := ?_)
  refine v0 (k := ?_)
  refine nil0 ?_
  repeat refine gwp_seq ?_
  refine gwp_ret ?_
  repeat (first | refine gthen_ret ?_ | refine gblock_ret ?_ | refine gnoGoto_ret ?_)
  refine fin_ret ?_
  refine fp2 (hR := ?_)
  rfl
theorem r_apart_f (f : Fd) (hl : f.ps.length ≤ 1048576) (hv : f.valid = false) : PSpec Try.prog 27 [.agg [.list (f.ps.map pS), .int .i64 f.el, .int .i64 f.eh, .int .i64 f.nl, .int .i64 f.nh, .int .i64 f.dl, .int .i64 f.dh, .int .i64 f.dep, .int .i64 f.tm, .int .i64 f.gp]] (.ok (.tuple [.list [], .int .i64 1])) := by
  refine pspec_of Try.func27 (rfl : Try.f27.body = some _) rfl ?_
  intro E A C hN hL
  replace hN : C.N = 18 := hN
  simp only [Gh.num, List.map_cons, List.map_nil, Nat.reduceAdd]
  repeat refine gwp_seq ?_
  refine gwp_region ?_
  refine n1 110 false (hc := kWf1.h {}) (k := ?_)
  refine v0 (k := ?_)
  refine v0 (k := ?_)
  refine nil0 ?_
  refine cl [1] (k := ?_)
  repeat refine gwp_seq ?_
  refine gwp_region ?_
  refine v0 (k := ?_)
  refine pc0 (spec := r_open_f f hl hv) (hent := ent52) (k := ?_)
  refine v0 (k := ?_)
  refine v0 (k := ?_)
  refine v0 (k := ?_)
  refine v0 (k := ?_)
  refine v0 (k := ?_)
  refine nil0 ?_
  refine cl [1, 5] (k := ?_)
  repeat refine gwp_seq ?_
  refine gwp_region ?_
  refine v0 (k := ?_)
  refine v0 (k := ?_)
  refine rb 12 true (h := by (first | rfl | decide)) (k := ?_)
  refine nil0 ?_
  repeat refine gwp_seq ?_
  refine cT (k := ?_)
  repeat refine gwp_seq ?_
  refine gwp_region ?_
  refine v0 (k := ?_)
  refine v0 (k := ?_)
  refine v0 (k := ?_)
  refine nil0 ?_
  repeat refine gwp_seq ?_
  refine gwp_ret ?_
  repeat (first | refine gthen_ret ?_ | refine gblock_ret ?_ | refine gnoGoto_ret ?_)
  refine fin_ret ?_
  refine fp2 (hR := ?_)
  rfl
end Go.Proofs.Ytabeeaiilanmjaa

/- Contracts of the program, case by case. -/
namespace Go.Proofs.Ytabeeaiilanmjaa
open Go.Gh
set_option maxRecDepth 100000
set_option maxHeartbeats 4000000
theorem sh_t (f : Fd) (hv : f.valid = true) (w : Nat) (hw : (setsL f).find? (listQ f) = some w) : PSpec Try.prog 20 [.agg [.list (f.ps.map pS), .int .i64 f.el, .int .i64 f.eh, .int .i64 f.nl, .int .i64 f.nh, .int .i64 f.dl, .int .i64 f.dh, .int .i64 f.dep, .int .i64 f.tm, .int .i64 f.gp]] (.ok (.tuple [.int .i64 (w : Nat), .int .i64 0])) := fun E A => p_short_t f hv w hw
theorem sh_n (f : Fd) (hv : f.valid = true) (hw : (setsL f).find? (listQ f) = none) : PSpec Try.prog 20 [.agg [.list (f.ps.map pS), .int .i64 f.el, .int .i64 f.eh, .int .i64 f.nl, .int .i64 f.nh, .int .i64 f.dl, .int .i64 f.dh, .int .i64 f.dep, .int .i64 f.tm, .int .i64 f.gp]] (.ok (.tuple [.int .i64 0, .int .i64 4])) := fun E A => p_short_n f hv hw
theorem sh_f (f : Fd) (hl : f.ps.length ≤ 1048576) (hv : f.valid = false) : PSpec Try.prog 20 [.agg [.list (f.ps.map pS), .int .i64 f.el, .int .i64 f.eh, .int .i64 f.nl, .int .i64 f.nh, .int .i64 f.dl, .int .i64 f.dh, .int .i64 f.dep, .int .i64 f.tm, .int .i64 f.gp]] (.ok (.tuple [.int .i64 0, .int .i64 1])) := fun E A => p_short_f f hl hv
theorem li_t (f : Fd) (hv : f.valid = true) (w : Nat) (hw : (setsL f).find? (listQ f) = some w) : PSpec Try.prog 22 [.agg [.list (f.ps.map pS), .int .i64 f.el, .int .i64 f.eh, .int .i64 f.nl, .int .i64 f.nh, .int .i64 f.dl, .int .i64 f.dh, .int .i64 f.dep, .int .i64 f.tm, .int .i64 f.gp]] (.ok (.tuple [.int .i64 (cntA f w : Nat), .int .i64 0])) := fun E A => p_lists_t f hv w hw
theorem li_n (f : Fd) (hv : f.valid = true) (hw : (setsL f).find? (listQ f) = none) : PSpec Try.prog 22 [.agg [.list (f.ps.map pS), .int .i64 f.el, .int .i64 f.eh, .int .i64 f.nl, .int .i64 f.nh, .int .i64 f.dl, .int .i64 f.dh, .int .i64 f.dep, .int .i64 f.tm, .int .i64 f.gp]] (.ok (.tuple [.int .i64 0, .int .i64 4])) := fun E A => p_lists_n f hv hw
theorem li_f (f : Fd) (hl : f.ps.length ≤ 1048576) (hv : f.valid = false) : PSpec Try.prog 22 [.agg [.list (f.ps.map pS), .int .i64 f.el, .int .i64 f.eh, .int .i64 f.nl, .int .i64 f.nh, .int .i64 f.dl, .int .i64 f.dh, .int .i64 f.dep, .int .i64 f.tm, .int .i64 f.gp]] (.ok (.tuple [.int .i64 0, .int .i64 1])) := fun E A => p_lists_f f hl hv
theorem ne_t (f : Fd) (hv : f.valid = true) (hq : (listQ f (usedN f f.ps.length)) = true) : PSpec Try.prog 24 [.agg [.list (f.ps.map pS), .int .i64 f.el, .int .i64 f.eh, .int .i64 f.nl, .int .i64 f.nh, .int .i64 f.dl, .int .i64 f.dh, .int .i64 f.dep, .int .i64 f.tm, .int .i64 f.gp]] (.ok (.tuple [.int .i64 (needN f f.ps.length : Nat), .int .i64 0])) := fun E A => p_need_t f hv hq
theorem ne_n (f : Fd) (hv : f.valid = true) (hq : (listQ f (usedN f f.ps.length)) = false) : PSpec Try.prog 24 [.agg [.list (f.ps.map pS), .int .i64 f.el, .int .i64 f.eh, .int .i64 f.nl, .int .i64 f.nh, .int .i64 f.dl, .int .i64 f.dh, .int .i64 f.dep, .int .i64 f.tm, .int .i64 f.gp]] (.ok (.tuple [.int .i64 0, .int .i64 4])) := fun E A => p_need_n f hv hq
theorem ne_f (f : Fd) (hl : f.ps.length ≤ 1048576) (hv : f.valid = false) : PSpec Try.prog 24 [.agg [.list (f.ps.map pS), .int .i64 f.el, .int .i64 f.eh, .int .i64 f.nl, .int .i64 f.nh, .int .i64 f.dl, .int .i64 f.dh, .int .i64 f.dep, .int .i64 f.tm, .int .i64 f.gp]] (.ok (.tuple [.int .i64 0, .int .i64 1])) := fun E A => p_need_f f hl hv
theorem ap_t (f : Fd) (hv : f.valid = true) (hq : (listQ f (usedN f f.ps.length)) = true) : PSpec Try.prog 26 [.agg [.list (f.ps.map pS), .int .i64 f.el, .int .i64 f.eh, .int .i64 f.nl, .int .i64 f.nh, .int .i64 f.dl, .int .i64 f.dh, .int .i64 f.dep, .int .i64 f.tm, .int .i64 f.gp]] (.ok (.tuple [.list ((apL f (allS f.ps.length)).map fun e : Int × Int => P.agg [.int .i64 e.1, .int .i64 e.2]), .int .i64 0])) := fun E A => p_apart_t f hv hq
theorem ap_n (f : Fd) (hv : f.valid = true) (hq : (listQ f (usedN f f.ps.length)) = false) : PSpec Try.prog 26 [.agg [.list (f.ps.map pS), .int .i64 f.el, .int .i64 f.eh, .int .i64 f.nl, .int .i64 f.nh, .int .i64 f.dl, .int .i64 f.dh, .int .i64 f.dep, .int .i64 f.tm, .int .i64 f.gp]] (.ok (.tuple [.list [], .int .i64 4])) := fun E A => p_apart_n f hv hq
theorem ap_f (f : Fd) (hl : f.ps.length ≤ 1048576) (hv : f.valid = false) : PSpec Try.prog 26 [.agg [.list (f.ps.map pS), .int .i64 f.el, .int .i64 f.eh, .int .i64 f.nl, .int .i64 f.nh, .int .i64 f.dl, .int .i64 f.dh, .int .i64 f.dep, .int .i64 f.tm, .int .i64 f.gp]] (.ok (.tuple [.list [], .int .i64 1])) := fun E A => p_apart_f f hl hv
end Go.Proofs.Ytabeeaiilanmjaa
