/- The statement CoverTurned: the call returns true for every input, and its arguments read as before; no condition. -/
import Derived.Test.YtabeeaiilanmjaaB3
set_option linter.unusedVariables false
set_option linter.unusedSimpArgs false
/- More plates serve no less: sets that are lists, and larger ones. -/
namespace Go.Proofs.Ytabeeaiilanmjaa
open Go.Gh
set_option maxRecDepth 100000
/-- One set lies in another. -/
def Sub (s t : Nat) : Prop := ∀ i, s.testBit i = true → t.testBit i = true
theorem Sub.refl (s : Nat) : Sub s s := fun _ h => h
theorem Sub.trans {s t u : Nat} (h : Sub s t) (k : Sub t u) : Sub s u := fun i hi => k i (h i hi)
theorem and_sub (s t : Nat) : Sub (s &&& t) s := fun i h => by rw [Nat.testBit_and, Bool.and_eq_true] at h; exact h.1
theorem and_sub2 (s t : Nat) : Sub (s &&& t) t := fun i h => by rw [Nat.testBit_and, Bool.and_eq_true] at h; exact h.2
theorem Sub.and {s t : Nat} (h : Sub s t) (a : Nat) : Sub (a &&& s) (a &&& t) := fun i hi => by
  rw [Nat.testBit_and, Bool.and_eq_true] at hi ⊢
  exact ⟨hi.1, h i hi.2⟩
theorem days_sub {ps : List Sk} {s t : Nat} (h : Sub s t) : ∀ k, (daysN ps s k).Sublist (daysN ps t k)
  | 0 => List.Sublist.refl _
  | k + 1 => by
    have ih := days_sub (ps := ps) h k
    rw [daysN, daysN]
    split
    · by_cases hs : s.testBit k = true
      · rw [if_pos hs, if_pos (h k hs)]
        exact ih.append (List.Sublist.refl _)
      rw [if_neg hs]
      split
      · exact ih.trans (List.sublist_append_left _ _)
      exact ih
    exact ih
/-- From a longer list no fewer can be chosen. -/
theorem most_sub {gap : Int} {l m : List Int} (h : l.Sublist m) : mostR gap l [] ≤ mostR gap m [] := by
  obtain ⟨t, h1, h2, h3⟩ := most_has gap l [] List.Pairwise.nil
  have := most_max gap m [] t (h1.trans h) h2
  rw [h3]
  exact this
theorem serv_sub {f : Fd} (hv : f.valid = true) {s t : Nat} (h : Sub s t) (hs : servQ f s = true) : servQ f t = true := by
  have hn := valid_num hv
  rw [servQ, grd_most (by omega), decide_eq_true_eq] at hs ⊢
  have := most_sub (gap := f.gp) (days_sub (ps := f.ps) h f.ps.length)
  omega
theorem list_sub {f : Fd} (hv : f.valid = true) {s t : Nat} (h : Sub s t) (hs : listQ f s = true) : listQ f t = true := by
  rw [listQ, List.all_eq_true] at hs ⊢
  exact fun p hp => serv_sub hv (h.and _) (hs p hp)
theorem at_used (f : Fd) (x y : Int) : Sub (atN f x y) (usedN f f.ps.length) := fun i h => by
  rw [atN, atK, setN_bit, Bool.and_eq_true, decide_eq_true_eq] at h
  rw [usedN, setN_bit, Bool.and_eq_true, decide_eq_true_eq]
  refine ⟨h.1, ?_⟩
  obtain ⟨h1, h2⟩ := h
  rw [plQ] at h2 ⊢
  split at h2
  · rename_i p hp
    rw [Bool.and_eq_true] at h2
    exact h2.1
  cases h2
theorem used_lt2 (f : Fd) : usedN f f.ps.length < 2 ^ f.ps.length := setN_lt2 _ _
theorem and_and {a u s : Nat} (h : Sub a u) : a &&& (s &&& u) = a &&& s := Nat.eq_of_testBit_eq fun i => by
  rw [Nat.testBit_and, Nat.testBit_and, Nat.testBit_and]
  cases ha : a.testBit i with
  | false => rfl
  | true => rw [h i ha, Bool.and_true]
/-- Plates of no use make no list. -/
theorem list_used (f : Fd) (s : Nat) : listQ f (s &&& usedN f f.ps.length) = listQ f s := by
  rw [listQ, listQ]
  congr 1
  funext p
  rw [and_and (at_used f p.1 p.2)]
theorem all_bit {n i : Nat} : (allS n).testBit i = decide (i < n) := by rw [allS, Nat.testBit_two_pow_sub_one]
theorem all_sub {s n : Nat} (h : s < 2 ^ n) : Sub s (allS n) := fun i hi => by
  rw [all_bit, decide_eq_true_eq]
  apply Nat.lt_of_not_le
  intro h2
  rw [lt_bit h h2] at hi; cases hi
end Go.Proofs.Ytabeeaiilanmjaa

/- The shortest list: the first one by size, then by number; how many are as short; what is needed. -/
namespace Go.Proofs.Ytabeeaiilanmjaa
open Go.Gh
set_option maxRecDepth 100000
theorem mod_bit (n : Nat) : n % 2 = if n.testBit 0 = true then 1 else 0 := by
  rw [Nat.testBit_zero]
  by_cases h : n % 2 = 1
  · rw [h]; rfl
  rw [if_neg (by simpa using h)]; omega
theorem half_bit (n i : Nat) : (n / 2).testBit i = n.testBit (i + 1) := by rw [Nat.testBit_succ]
theorem Sub.half {s t : Nat} (h : Sub s t) : Sub (s / 2) (t / 2) := fun i hi => by rw [half_bit] at hi ⊢; exact h _ hi
/-- A set that lies in another one is no larger, and smaller unless it is the same. -/
theorem pop_sub : ∀ (n s t : Nat), s < 2 ^ n → t < 2 ^ n → n ≤ 12 → Sub s t → pop s < pop t ∨ s = t
  | 0, s, t, h1, h2, _, _ => .inr (by omega)
  | n + 1, s, t, h1, h2, hn, h => by
    have hp : 2 ^ (n + 1) ≤ 2 ^ 12 := Nat.pow_le_pow_right (by omega) hn
    have e1 := pop_half (m := s) (by omega)
    have e2 := pop_half (m := t) (by omega)
    rw [Nat.pow_succ] at h1 h2
    have ih := pop_sub n (s / 2) (t / 2) (by omega) (by omega) (by omega) h.half
    have hb : s % 2 ≤ t % 2 := by
      rw [mod_bit, mod_bit]
      by_cases h0 : s.testBit 0 = true
      · rw [if_pos h0, if_pos (h 0 h0)]; exact Nat.le_refl _
      rw [if_neg h0]; exact Nat.zero_le _
    rcases ih with ih | ih
    · left; omega
    rw [ih] at e1
    by_cases hb2 : s % 2 = t % 2
    · right; omega
    left; omega
theorem sub_of {s u : Nat} (hs : s < 2 ^ 62) (hu : u < 2 ^ 62) : s &&& (2 ^ 64 - 1 - u) = 0 ↔ Sub s u := by
  constructor
  · intro h i hi
    have h2 := congrArg (Nat.testBit · i) h
    simp only [Nat.testBit_and, Nat.zero_testBit, hi, Bool.true_and] at h2
    rw [show 2 ^ 64 - 1 - u = 2 ^ 64 - (u + 1) by omega, Nat.testBit_two_pow_sub_succ (by omega)] at h2
    have hi62 : i < 62 := Nat.lt_of_not_le fun h3 => by rw [lt_bit hs h3] at hi; cases hi
    rw [decide_eq_true (show i < 64 by omega)] at h2
    simpa using h2
  intro h
  exact Gh.sub_zero hs hu h
def Bef2 (a b : Nat) : Prop := pop a < pop b ∨ (pop a = pop b ∧ a < b)
theorem ok_pop {u z s : Nat} (h : okS u z s = true) : pop s = z := by
  rw [okS, Bool.and_eq_true, decide_eq_true_eq, decide_eq_true_eq] at h; exact h.2
theorem sz_pair (u z : Nat) : ∀ s, (szL u z s).Pairwise Bef2
  | 0 => List.Pairwise.nil
  | s + 1 => by
    have ih := sz_pair u z s
    rw [szL]
    split
    · rename_i h
      refine List.pairwise_append.2 ⟨ih, List.pairwise_singleton _ _, fun a ha b hb => ?_⟩
      rw [List.mem_singleton] at hb; subst hb
      have := sz_mem.1 ha
      exact .inr ⟨by rw [ok_pop this.2, ok_pop h], this.1⟩
    exact ih
theorem set_pair (u N : Nat) : ∀ Z, (setL u N Z).Pairwise Bef2
  | 0 => List.Pairwise.nil
  | Z + 1 => by
    rw [setL]
    refine List.pairwise_append.2 ⟨set_pair u N Z, sz_pair u Z N, fun a ha b hb => ?_⟩
    obtain ⟨_, z, h1, h2⟩ := set_mem.1 ha
    have h3 := sz_mem.1 hb
    left
    rw [ok_pop h2, ok_pop h3.2]; exact h1
theorem sets_mem {f : Fd} (hl : f.ps.length ≤ 12) {x : Nat} : x ∈ setsL f ↔ x < 2 ^ f.ps.length ∧ Sub x (usedN f f.ps.length) := by
  have hp : 2 ^ f.ps.length ≤ 2 ^ 12 := Nat.pow_le_pow_right (by omega) hl
  have hu := used_lt2 f
  rw [setsL, set_mem]
  constructor
  · rintro ⟨h1, z, _, h2⟩
    rw [okS, Bool.and_eq_true, decide_eq_true_eq] at h2
    exact ⟨h1, (sub_of (by omega) (by omega)).1 h2.1⟩
  rintro ⟨h1, h2⟩
  refine ⟨h1, pop x, ?_, ok_t ((sub_of (by omega) (by omega)).2 h2) rfl⟩
  rcases pop_sub _ x _ h1 hu hl h2 with h3 | h3
  · omega
  rw [← h3]; omega
/-- What is said of the shortest list. -/
structure Sho (f : Fd) (w : Nat) : Prop where
  lt : w < 2 ^ f.ps.length
  sub : Sub w (usedN f f.ps.length)
  ls : listQ f w = true
  min : ∀ s, s < 2 ^ f.ps.length → listQ f s = true → pop w < pop s ∨ (pop w = pop s ∧ w ≤ s)
theorem and_lt2 {s u n : Nat} (h : s < 2 ^ n) : s &&& u < 2 ^ n := Nat.lt_of_le_of_lt Nat.and_le_left h
theorem sho_some {f : Fd} (hv : f.valid = true) {w : Nat} (h : (setsL f).find? (listQ f) = some w) : Sho f w := by
  have hn := valid_num hv
  have hl : f.ps.length ≤ 12 := by omega
  obtain ⟨h1, l1, l2, h2, h3⟩ := List.find?_eq_some_iff_append.1 h
  have hm := (sets_mem hl).1 (List.mem_of_find?_eq_some h)
  refine ⟨hm.1, hm.2, h1, fun s hs hq => ?_⟩
  have hu := used_lt2 f
  have hq2 : listQ f (s &&& usedN f f.ps.length) = true := by rw [list_used]; exact hq
  have hsm : s &&& usedN f f.ps.length ∈ setsL f := (sets_mem hl).2 ⟨and_lt2 hs, and_sub2 _ _⟩
  have hpw : (setsL f).Pairwise Bef2 := set_pair _ _ _
  have hle : pop w < pop (s &&& usedN f f.ps.length) ∨ (pop w = pop (s &&& usedN f f.ps.length) ∧ w ≤ s &&& usedN f f.ps.length) := by
    rw [h2] at hsm hpw
    rcases List.mem_append.1 hsm with h4 | h4
    · have := h3 _ h4
      rw [hq2] at this; cases this
    rcases List.mem_cons.1 h4 with h4 | h4
    · rw [h4]; exact .inr ⟨rfl, Nat.le_refl _⟩
    have := (List.pairwise_cons.1 (List.pairwise_append.1 hpw).2.1).1 _ h4
    rcases this with h5 | h5
    · exact .inl h5
    exact .inr ⟨h5.1, by omega⟩
  rcases pop_sub _ (s &&& usedN f f.ps.length) s (and_lt2 hs) hs hl (and_sub _ _) with h5 | h5
  · left; omega
  rwa [h5] at hle
theorem sho_none {f : Fd} (hv : f.valid = true) : (setsL f).find? (listQ f) = none ↔ listQ f (usedN f f.ps.length) = false := by
  have hn := valid_num hv
  rw [List.find?_eq_none]
  constructor
  · intro h
    have := h _ ((sets_mem (by omega)).2 ⟨used_lt2 f, Sub.refl _⟩)
    simpa using this
  intro h x hx hq
  have := list_sub hv ((sets_mem (by omega)).1 hx).2 hq
  rw [h] at this; cases this
/-- One that is as short has just plates of use. -/
theorem same_sub {f : Fd} (hv : f.valid = true) {w : Nat} (h : Sho f w) {s : Nat} (hs : s < 2 ^ f.ps.length) (hq : listQ f s = true) (hp : pop s = pop w) : Sub s (usedN f f.ps.length) := by
  have hn := valid_num hv
  rcases pop_sub _ (s &&& usedN f f.ps.length) s (and_lt2 hs) hs (by omega) (and_sub _ _) with h5 | h5
  · have := h.min (s &&& usedN f f.ps.length) (and_lt2 hs) (by rw [list_used]; exact hq)
    omega
  rw [← h5]; exact and_sub2 _ _
/-- How many sets up to one are as short, and lists. -/
def numR (f : Fd) (w : Nat) : Nat → Nat
  | 0 => 0
  | s + 1 => if sameQ f w s = true then numR f w s + 1 else numR f w s
theorem num_le (f : Fd) (w : Nat) : ∀ s, numR f w s ≤ s
  | 0 => Nat.le_refl _
  | s + 1 => by have := num_le f w s; rw [numR]; split <;> omega
theorem sz_count {f : Fd} (hv : f.valid = true) {w : Nat} (h : Sho f w) : ∀ s, s ≤ 2 ^ f.ps.length → (szL (usedN f f.ps.length) (pop w) s).countP (sameQ f w) = numR f w s
  | 0, _ => rfl
  | s + 1, hs => by
    have hn := valid_num hv
    have hp : 2 ^ f.ps.length ≤ 2 ^ 12 := Nat.pow_le_pow_right (by omega) (by omega)
    have hu := used_lt2 f
    have ih := sz_count hv h s (by omega)
    rw [szL, numR]
    by_cases hq : sameQ f w s = true
    · have hq2 := hq
      rw [sameQ, Bool.and_eq_true, decide_eq_true_eq] at hq2
      have hsub := same_sub hv h (show s < 2 ^ f.ps.length by omega) hq2.2 hq2.1
      rw [if_pos (ok_t ((sub_of (by omega) (by omega)).2 hsub) hq2.1), if_pos hq, List.countP_append, ih, List.countP_cons_of_pos hq]; rfl
    rw [if_neg hq]
    split
    · rw [List.countP_append, ih, List.countP_cons_of_neg hq]; rfl
    exact ih
theorem set_count {f : Fd} {w u N : Nat} : ∀ Z, (setL u N Z).countP (sameQ f w) = if pop w < Z then (szL u (pop w) N).countP (sameQ f w) else 0
  | 0 => rfl
  | Z + 1 => by
    rw [setL, List.countP_append, set_count Z]
    by_cases h : pop w = Z
    · rw [if_neg (by omega), if_pos (by omega), Nat.zero_add, h]
    have : (szL u Z N).countP (sameQ f w) = 0 := by
      rw [List.countP_eq_zero]
      intro x hx hq
      rw [sameQ, Bool.and_eq_true, decide_eq_true_eq] at hq
      rw [ok_pop (sz_mem.1 hx).2] at hq
      omega
    rw [this, Nat.add_zero]
    by_cases h2 : pop w < Z
    · rw [if_pos h2, if_pos (by omega)]
    rw [if_neg h2, if_neg (by omega)]
theorem cnt_num {f : Fd} (hv : f.valid = true) {w : Nat} (h : Sho f w) : cntA f w = numR f w (2 ^ f.ps.length) := by
  have hn := valid_num hv
  rw [cntA, cntL, List.take_length, setsL, set_count, if_pos, sz_count hv h _ (Nat.le_refl _)]
  rcases pop_sub _ w _ h.lt (used_lt2 f) (by omega) h.sub with h3 | h3
  · omega
  rw [← h3]; omega
theorem off_bit {s k : Nat} (hk : k < 12) (i : Nat) : (s &&& (2 ^ 64 - 1 - 2 ^ k)).testBit i = (s.testBit i && !decide (k = i)) ∨ 64 ≤ i := by
  by_cases hi : 64 ≤ i
  · exact .inr hi
  left
  have h2 : 2 ^ k < 2 ^ 64 := Nat.pow_lt_pow_right (by omega) (by omega)
  rw [Nat.testBit_and, show 2 ^ 64 - 1 - 2 ^ k = 2 ^ 64 - (2 ^ k + 1) by omega, Nat.testBit_two_pow_sub_succ h2, decide_eq_true (show i < 64 by omega), Bool.true_and, Nat.testBit_two_pow]
end Go.Proofs.Ytabeeaiilanmjaa

/- What several statements use: what is missing, by cases; sets in range. -/
namespace Go.Proofs.Ytabeeaiilanmjaa
open Go.Gh
set_option maxRecDepth 100000
set_option maxHeartbeats 4000000
def misE (f : Fd) (s : Nat) : Int := match misL f s with | [] => 4 | _ :: _ => 0
end Go.Proofs.Ytabeeaiilanmjaa

/- What is needed lies in every list; if it is one it is the only shortest one. -/
namespace Go.Proofs.Ytabeeaiilanmjaa
open Go.Gh
set_option maxRecDepth 100000
def butN (f : Fd) (i : Nat) : Nat := allS f.ps.length &&& (2 ^ 64 - 1 - 2 ^ i)
theorem but_lt (f : Fd) (i : Nat) : butN f i < 2 ^ f.ps.length := Nat.lt_of_le_of_lt Nat.and_le_left (by have := Nat.two_pow_pos f.ps.length; rw [allS]; omega)
theorem but_bit {f : Fd} {i j : Nat} (hi : i < 12) (hj : j < f.ps.length) (hl : f.ps.length ≤ 12) : (butN f i).testBit j = !decide (i = j) := by
  rcases off_bit (s := allS f.ps.length) hi j with h | h
  · rw [butN, h, all_bit, decide_eq_true hj, Bool.true_and]
  omega
theorem lt_of_bit {s n i : Nat} (h : s < 2 ^ n) (hb : s.testBit i = true) : i < n := Nat.lt_of_not_le fun h2 => by rw [lt_bit h h2] at hb; cases hb
/-- A set without a plate lies in all but that one. -/
theorem but_sub {f : Fd} (hl : f.ps.length ≤ 12) {s i : Nat} (hs : s < 2 ^ f.ps.length) (hi : i < 12) (hb : s.testBit i = false) : Sub s (butN f i) := fun j hj => by
  rw [but_bit hi (lt_of_bit hs hj) hl]
  by_cases e : i = j
  · subst e; rw [hb] at hj; cases hj
  rw [decide_eq_false e]; rfl
theorem need_bit {f : Fd} (hv : f.valid = true) (hq : listQ f (usedN f f.ps.length) = true) {i : Nat} (hi : i < f.ps.length) : (needN f f.ps.length).testBit i = !listQ f (butN f i) := by
  have hn := valid_num hv
  have hl : f.ps.length ≤ 12 := by omega
  rw [needN, setN_bit, decide_eq_true hi, Bool.true_and, needQ]
  cases hu : (usedN f f.ps.length).testBit i with
  | true =>
    rw [Bool.true_and, ← list_used f (butN f i)]
    congr 2
    refine Nat.eq_of_testBit_eq fun j => ?_
    rw [lessN, Nat.testBit_and (butN f i)]
    rcases off_bit (s := usedN f f.ps.length) (show i < 12 by omega) j with h | h
    · rw [h]
      cases hj : (usedN f f.ps.length).testBit j with
      | false => rw [Bool.false_and, Bool.and_false]
      | true => rw [but_bit (by omega) (lt_of_bit (used_lt2 f) hj) hl, Bool.true_and, Bool.and_true]
    rw [lt_bit (used_lt2 f) (show f.ps.length ≤ j by omega), Bool.and_false]
    exact lt_bit (and_lt2 (used_lt2 f)) (show f.ps.length ≤ j by omega)
  | false =>
    rw [Bool.false_and, list_sub hv (but_sub hl (used_lt2 f) (by omega) hu) hq]; rfl
end Go.Proofs.Ytabeeaiilanmjaa

/- With a plate more, a lesser depth, fewer times, a lesser gap, or fewer places, all that was a list still is one. -/
namespace Go.Proofs.Ytabeeaiilanmjaa
open Go.Gh
set_option maxRecDepth 100000
/-- All sets that are lists of one field are lists of another one. -/
structure Wid (f x : Fd) : Prop where
  len : f.ps.length ≤ x.ps.length
  ls : ∀ s, s < 2 ^ f.ps.length → listQ f s = true → listQ x s = true
theorem at_bit {f : Fd} {a b : Int} {k : Nat} : (atN f a b).testBit k = true ↔ ∃ p, f.ps[k]? = some p ∧ useQ f p = true ∧ hasQ p a b = true := by
  rw [atN, atK, setN_bit, Bool.and_eq_true, decide_eq_true_eq, plQ]
  constructor
  · rintro ⟨hk, h⟩
    rw [List.getElem?_eq_getElem hk] at h
    simp only [Bool.and_eq_true] at h
    exact ⟨_, List.getElem?_eq_getElem hk, h⟩
  rintro ⟨p, hp, h1, h2⟩
  refine ⟨(List.getElem?_eq_some_iff.1 hp).1, ?_⟩
  rw [hp]
  simp only [h1, h2, Bool.and_self]
theorem pls_iff {f : Fd} {e : Int × Int} : e ∈ plsL f ↔ (f.el ≤ e.1 ∧ e.1 ≤ f.eh) ∧ f.nl ≤ e.2 ∧ e.2 ≤ f.nh :=
  ⟨pls_mem, fun h => mem_pls h.1 h.2⟩
theorem list_iff {f : Fd} {s : Nat} : listQ f s = true ↔ ∀ a b, (f.el ≤ a ∧ a ≤ f.eh) ∧ f.nl ≤ b ∧ b ≤ f.nh → servQ f (atN f a b &&& s) = true := by
  rw [listQ, List.all_eq_true]
  exact ⟨fun h a b hab => h (a, b) (pls_iff.2 hab), fun h e he => h e.1 e.2 (pls_iff.1 he)⟩
/-- Two sets with the same bits. -/
theorem bit_ext {s t : Nat} (h : ∀ i, s.testBit i = true ↔ t.testBit i = true) : s = t := Nat.eq_of_testBit_eq fun i => Bool.eq_iff_iff.2 (h i)
def moreF (f : Fd) (p : Sk) : Fd := ⟨f.ps ++ [p], f.el, f.eh, f.nl, f.nh, f.dl, f.dh, f.dep, f.tm, f.gp⟩
def depF (f : Fd) (d : Int) : Fd := ⟨f.ps, f.el, f.eh, f.nl, f.nh, f.dl, f.dh, d, f.tm, f.gp⟩
def tmF (f : Fd) (t : Int) : Fd := ⟨f.ps, f.el, f.eh, f.nl, f.nh, f.dl, f.dh, f.dep, t, f.gp⟩
def gpF (f : Fd) (g : Int) : Fd := ⟨f.ps, f.el, f.eh, f.nl, f.nh, f.dl, f.dh, f.dep, f.tm, g⟩
def ehF (f : Fd) (e : Int) : Fd := ⟨f.ps, f.el, e, f.nl, f.nh, f.dl, f.dh, f.dep, f.tm, f.gp⟩
theorem use_iff {f : Fd} {p : Sk} : useQ f p = true ↔ ((f.dl ≤ p.day ∧ p.day ≤ f.dh) ∧ f.dep ≤ p.dep) ∧ max f.el p.el ≤ min f.eh p.eh ∧ max f.nl p.nl ≤ min f.nh p.nh := by
  simp only [useQ, inB, Bool.and_eq_true, decide_eq_true_eq]
theorem Wid.some {f x : Fd} (hv : f.valid = true) (hvx : x.valid = true) (h : Wid f x) {w : Nat} (hS : Sho f w) : ∃ v, (setsL x).find? (listQ x) = some v ∧ pop v ≤ pop w := by
  have hw : w < 2 ^ x.ps.length := Nat.lt_of_lt_of_le hS.lt (Nat.pow_le_pow_right (by omega) h.len)
  have hl := h.ls w hS.lt hS.ls
  cases hf : (setsL x).find? (listQ x) with
  | none =>
    have h1 := (sho_none hvx).1 hf
    have hl2 := hl
    rw [← list_used] at hl2
    rw [list_sub hvx (and_sub2 _ _) hl2] at h1
    cases h1
  | some v =>
    refine ⟨v, rfl, ?_⟩
    have := (sho_some hvx hf).min w hw hl
    omega
end Go.Proofs.Ytabeeaiilanmjaa

/- The places that are apart: the program's choice is the longest one that comes first. -/
namespace Go.Proofs.Ytabeeaiilanmjaa
open Go.Gh
set_option maxRecDepth 100000
abbrev Pl := Int × Int
/-- Two sets have nothing together. -/
def Dis (a b : Nat) : Prop := ∀ i, ¬ (a.testBit i = true ∧ b.testBit i = true)
theorem Dis.symm {a b : Nat} (h : Dis a b) : Dis b a := fun i hi => h i ⟨hi.2, hi.1⟩
theorem off_iff {k s : Nat} (hk : k < 4096) (hs : s < 4096) : offN k s = 0 ↔ Sub k s := by
  constructor
  · intro h i hi
    have h1 := offN_bit hk hs i
    rw [h, Nat.zero_testBit, hi] at h1
    cases hb : s.testBit i with
    | true => rfl
    | false => rw [hb] at h1; cases h1
  intro h
  refine Nat.eq_of_testBit_eq fun i => ?_
  rw [offN_bit hk hs, Nat.zero_testBit]
  cases hb : k.testBit i with
  | false => rfl
  | true => rw [h i hb]; rfl
theorem sub_off {a k s : Nat} (hk : k < 4096) (hs : s < 4096) : Sub a (offN s k) ↔ Sub a s ∧ Dis a k := by
  constructor
  · intro h
    refine ⟨fun i hi => ?_, fun i hi => ?_⟩
    · have := h i hi; rw [offN_bit hs hk, Bool.and_eq_true] at this; exact this.1
    have := h i hi.1; rw [offN_bit hs hk, hi.2] at this; simp at this
  rintro ⟨h1, h2⟩ i hi
  rw [offN_bit hs hk, h1 i hi]
  cases hb : k.testBit i with
  | false => rfl
  | true => exact absurd ⟨hi, hb⟩ (h2 i)
theorem off_off {s a b : Nat} (hs : s < 4096) (ha : a < 4096) (hb : b < 4096) : offN (offN s a) b = offN (offN s b) a := by
  have h1 := offN_le s a
  have h2 := offN_le s b
  refine Nat.eq_of_testBit_eq fun i => ?_
  rw [offN_bit (by omega) hb, offN_bit hs ha, offN_bit (by omega) ha, offN_bit hs hb]
  cases s.testBit i <;> cases a.testBit i <;> cases b.testBit i <;> rfl
theorem not_dis {k : Nat} (h : k ≠ 0) : ¬ Dis k k := fun hd => h (Nat.eq_of_testBit_eq fun i => by
  rw [Nat.zero_testBit]
  cases hb : k.testBit i with
  | false => rfl
  | true => exact absurd ⟨hb, hb⟩ (hd i))
/-- Places of which each one's plates are in a set, no two on one plate. -/
structure Fit (K : Pl → Nat) (t : List Pl) (s : Nat) : Prop where
  sub : ∀ e ∈ t, Sub (K e) s
  dis : t.Pairwise fun a b => Dis (K a) (K b)
theorem Fit.nil {K : Pl → Nat} {s : Nat} : Fit K [] s := ⟨fun _ h => (List.not_mem_nil h).elim, List.Pairwise.nil⟩
theorem fit_cons {K : Pl → Nat} (hK : ∀ e, K e < 4096) {p : Pl} {t : List Pl} {s : Nat} (hs : s < 4096) : Fit K (p :: t) s ↔ Sub (K p) s ∧ Fit K t (offN s (K p)) := by
  constructor
  · rintro ⟨h1, h2⟩
    obtain ⟨h3, h4⟩ := List.pairwise_cons.1 h2
    exact ⟨h1 p List.mem_cons_self, fun e he => (sub_off (hK p) hs).2 ⟨h1 e (List.mem_cons_of_mem _ he), (h3 e he).symm⟩, h4⟩
  rintro ⟨h1, h2, h3⟩
  refine ⟨fun e he => ?_, List.pairwise_cons.2 ⟨fun e he => ((sub_off (hK p) hs).1 (h2 e he)).2.symm, h3⟩⟩
  rcases List.mem_cons.1 he with rfl | he
  · exact h1
  exact ((sub_off (hK p) hs).1 (h2 e he)).1
theorem Fit.perm {K : Pl → Nat} {t u : List Pl} {s : Nat} (h : Fit K t s) (hp : t.Perm u) : Fit K u s :=
  ⟨fun e he => h.sub e (hp.mem_iff.2 he), (hp.pairwise_iff fun h => Dis.symm h).1 h.dis⟩
theorem Fit.mono {K : Pl → Nat} {t u : List Pl} {s : Nat} (h : Fit K t s) (hp : u.Sublist t) : Fit K u s :=
  ⟨fun e he => h.sub e (hp.subset he), h.dis.sublist hp⟩
/-- The longest choice that comes first. -/
def far (K : Pl → Nat) : List Pl → Nat → List Pl
  | [], _ => []
  | p :: L, s => if offN (K p) s = 0 then (if (far K L s).length ≤ (far K L (offN s (K p))).length + 1 then p :: far K L (offN s (K p)) else far K L s) else far K L s
theorem far_sub {K : Pl → Nat} : ∀ (L : List Pl) (s : Nat), (far K L s).Sublist L
  | [], _ => List.Sublist.refl _
  | p :: L, s => by
    rw [far]
    split
    · split
      · exact (far_sub L _).cons_cons p
      exact (far_sub L s).cons p
    exact (far_sub L s).cons p
theorem far_fit {K : Pl → Nat} (hK : ∀ e, K e < 4096) : ∀ (L : List Pl) (s : Nat), s < 4096 → Fit K (far K L s) s
  | [], _, _ => Fit.nil
  | p :: L, s, hs => by
    have h1 := offN_le s (K p)
    rw [far]
    split
    · rename_i h
      split
      · exact (fit_cons hK hs).2 ⟨(off_iff (hK p) hs).1 h, far_fit hK L _ (by omega)⟩
      exact far_fit hK L s hs
    exact far_fit hK L s hs
def bef (a b : Pl) : Prop := a.1 < b.1 ∨ (a.1 = b.1 ∧ a.2 < b.2)
/-- Where two choices differ first one has the place that comes before. -/
def Lex (l t : List Pl) : Prop := ∀ i a b, l[i]? = some a → t[i]? = some b → l.take i = t.take i → a ≠ b → bef a b
theorem Lex.refl (l : List Pl) : Lex l l := fun i a b h1 h2 _ h => by rw [h1] at h2; cases h2; exact absurd rfl h
theorem far_best {K : Pl → Nat} (hK : ∀ e, K e < 4096) : ∀ (L : List Pl) (s : Nat) (t : List Pl), s < 4096 → L.Pairwise bef → t.Sublist L → Fit K t s → t.length ≤ (far K L s).length ∧ (t.length = (far K L s).length → Lex (far K L s) t)
  | [], s, t, _, _, h, _ => by
    rw [List.sublist_nil.1 h]
    exact ⟨Nat.le_refl _, fun _ => Lex.refl _⟩
  | p :: L, s, t, hs, hp, h, hf => by
    have hle := offN_le s (K p)
    obtain ⟨hb, hp2⟩ := List.pairwise_cons.1 hp
    rcases List.sublist_cons_iff.1 h with h2 | ⟨r, rfl, h2⟩
    · have ih := far_best hK L s t hs hp2 h2 hf
      rw [far]
      split
      · split
        · rename_i hl
          refine ⟨by rw [List.length_cons]; omega, fun _ i a b h3 h4 h5 h6 => ?_⟩
          cases i with
          | zero =>
            rw [List.getElem?_cons_zero] at h3; cases h3
            exact hb b (h2.subset (List.mem_of_getElem? h4))
          | succ i =>
            exfalso
            cases t with
            | nil => cases h4
            | cons q t =>
              rw [List.take_succ_cons, List.take_succ_cons] at h5
              have e : p = q := (List.cons.inj h5).1
              have := hb q (h2.subset List.mem_cons_self)
              rw [e] at this
              rcases this with h | h <;> omega
        exact ih
      exact ih
    obtain ⟨f1, f2⟩ := (fit_cons hK hs).1 hf
    have ih := far_best hK L (offN s (K p)) r (by omega) hp2 h2 f2
    rw [far, if_pos ((off_iff (hK p) hs).2 f1)]
    split
    · rw [List.length_cons, List.length_cons]
      refine ⟨by omega, fun h3 i a b h4 h5 h6 h7 => ?_⟩
      cases i with
      | zero =>
        rw [List.getElem?_cons_zero] at h4 h5
        cases h4; cases h5; exact absurd rfl h7
      | succ i =>
        rw [List.getElem?_cons_succ] at h4 h5
        rw [List.take_succ_cons, List.take_succ_cons] at h6
        exact ih.2 (by omega) i a b h4 h5 (List.cons.inj h6).2 h7
    rename_i hl
    rw [List.length_cons]
    exact ⟨by omega, fun h3 => by omega⟩
/-- No choice of places, in whatever order, is longer. -/
theorem far_all {K : Pl → Nat} (hK : ∀ e, K e < 4096) : ∀ (L : List Pl) (s : Nat) (t : List Pl), s < 4096 → (∀ e ∈ L, K e ≠ 0) → (∀ e ∈ t, e ∈ L) → Fit K t s → t.length ≤ (far K L s).length
  | [], s, t, _, _, h, _ => by
    cases t with
    | nil => exact Nat.le_refl _
    | cons p t => exact absurd (h p List.mem_cons_self) (List.not_mem_nil)
  | p :: L, s, t, hs, h0, h, hf => by
    have hle := offN_le s (K p)
    have h02 : ∀ e ∈ L, K e ≠ 0 := fun e he => h0 e (List.mem_cons_of_mem _ he)
    by_cases hm : p ∈ t
    · obtain ⟨a, b, rfl⟩ := List.append_of_mem hm
      have hf2 := hf.perm (List.perm_middle (a := p) (l₁ := a) (l₂ := b))
      obtain ⟨f1, f2⟩ := (fit_cons hK hs).1 hf2
      have ih := far_all hK L (offN s (K p)) (a ++ b) (by omega) h02 (fun e he => by
        have h3 : e ∈ a ++ p :: b := by
          rcases List.mem_append.1 he with h | h
          · exact List.mem_append_left _ h
          exact List.mem_append_right _ (List.mem_cons_of_mem _ h)
        rcases List.mem_cons.1 (h e h3) with h4 | h4
        · exfalso
          subst h4
          have := ((sub_off (hK e) hs).1 (f2.sub e he)).2
          exact not_dis (h0 e List.mem_cons_self) this
        exact h4) f2
      rw [far, if_pos ((off_iff (hK p) hs).2 f1)]
      simp only [List.length_append, List.length_cons] at ih ⊢
      split
      · rw [List.length_cons]; omega
      omega
    have ih := far_all hK L s t hs h02 (fun e he => by
      rcases List.mem_cons.1 (h e he) with h4 | h4
      · subst h4; exact absurd he hm
      exact h4) hf
    rw [far]
    split
    · split
      · rw [List.length_cons]; omega
      exact ih
    exact ih
/-! How many at the most: the program's number is the length of that choice. -/
section
variable {K : Pl → Nat} {L : List Pl}
def mosP (K : Pl → Nat) (L : List Pl) (s : Nat) : Nat := (far K L s).length
theorem mos_step (hK : ∀ e, K e < 4096) (h0 : ∀ e ∈ L, K e ≠ 0) {s : Nat} (hs : s < 4096) {e : Pl} (he : e ∈ L) (hsub : Sub (K e) s) : mosP K L (offN s (K e)) + 1 ≤ mosP K L s := by
  have hle := offN_le s (K e)
  have hf := far_fit hK L (offN s (K e)) (by omega)
  exact far_all hK L s (e :: far K L (offN s (K e))) hs h0 (fun x hx => by
    rcases List.mem_cons.1 hx with rfl | hx
    · exact he
    exact (far_sub L _).subset hx) ((fit_cons hK hs).2 ⟨hsub, hf⟩)
/-- Each place of the choice leaves one less. -/
theorem mos_mem (hK : ∀ e, K e < 4096) (h0 : ∀ e ∈ L, K e ≠ 0) {s : Nat} (hs : s < 4096) {e : Pl} (he : e ∈ far K L s) : Sub (K e) s ∧ mosP K L s ≤ mosP K L (offN s (K e)) + 1 := by
  have hle := offN_le s (K e)
  have hf := far_fit hK L s hs
  refine ⟨hf.sub e he, ?_⟩
  obtain ⟨a, b, hab⟩ := List.append_of_mem he
  have hm : ∀ x ∈ a ++ b, x ∈ L := fun x hx => (far_sub L s).subset (by
    rw [hab]
    rcases List.mem_append.1 hx with h | h
    · exact List.mem_append_left _ h
    exact List.mem_append_right _ (List.mem_cons_of_mem _ h))
  rw [hab] at hf
  have f2 := ((fit_cons hK hs).1 (hf.perm List.perm_middle)).2
  have := far_all hK L (offN s (K e)) (a ++ b) (by omega) h0 hm f2
  rw [mosP, mosP, hab]
  simp only [List.length_append, List.length_cons] at this ⊢
  omega
/-- None of these is in any longest choice. -/
def Out (K : Pl → Nat) (L : List Pl) (A : List Pl) (s : Nat) : Prop := ∀ q ∈ A, Sub (K q) s → mosP K L (offN s (K q)) + 1 < mosP K L s
theorem far_rest (hK : ∀ e, K e < 4096) (h0 : ∀ e ∈ L, K e ≠ 0) {s : Nat} (hs : s < 4096) {A B : List Pl} (hL : L = A ++ B) (ho : Out K L A s) : (far K B s).length = mosP K L s := by
  have hB : ∀ e ∈ B, e ∈ L := fun e he => by rw [hL]; exact List.mem_append_right _ he
  apply Nat.le_antisymm
  · exact far_all hK L s _ hs h0 (fun e he => hB e ((far_sub B s).subset he)) (far_fit hK B s hs)
  refine far_all hK B s _ hs (fun e he => h0 e (hB e he)) (fun e he => ?_) (far_fit hK L s hs)
  have h1 := (far_sub L s).subset he
  rw [hL] at h1
  rcases List.mem_append.1 h1 with h2 | h2
  · obtain ⟨h3, h4⟩ := mos_mem hK h0 hs he
    have := ho e h2 h3
    omega
  exact h2
theorem out_take (hK : ∀ e, K e < 4096) (h0 : ∀ e ∈ L, K e ≠ 0) {s : Nat} (hs : s < 4096) {A : List Pl} {p : Pl} (hA : ∀ e ∈ A, e ∈ L) (hp : p ∈ L) (ho : Out K L A s) (hsub : Sub (K p) s) (heq : mosP K L (offN s (K p)) + 1 = mosP K L s) : Out K L (A ++ [p]) (offN s (K p)) := by
  intro q hq hqs
  have hle := offN_le s (K p)
  have hle2 := offN_le s (K q)
  obtain ⟨h1, h2⟩ := (sub_off (hK p) hs).1 hqs
  rcases List.mem_append.1 hq with h3 | h3
  · have h4 := ho q h3 h1
    have h5 := mos_step hK h0 (show offN s (K q) < 4096 by omega) hp ((sub_off (hK q) hs).2 ⟨hsub, h2.symm⟩)
    rw [off_off hs (hK q) (hK p)] at h5
    omega
  rw [List.mem_singleton] at h3
  subst h3
  exact absurd h2 (not_dis (h0 q hp))
theorem far_take (hK : ∀ e, K e < 4096) (h0 : ∀ e ∈ L, K e ≠ 0) {s : Nat} (hs : s < 4096) {A B : List Pl} {p : Pl} (hL : L = A ++ p :: B) (ho : Out K L A s) (hsub : Sub (K p) s) (heq : mosP K L (offN s (K p)) + 1 = mosP K L s) : far K (p :: B) s = p :: far K B (offN s (K p)) := by
  have hle := offN_le s (K p)
  have hA : ∀ e ∈ A, e ∈ L := fun e he => by rw [hL]; exact List.mem_append_left _ he
  have hB : ∀ e ∈ B, e ∈ L := fun e he => by rw [hL]; exact List.mem_append_right _ (List.mem_cons_of_mem _ he)
  have hp : p ∈ L := by rw [hL]; exact List.mem_append_right _ List.mem_cons_self
  have h1 := far_rest hK h0 (show offN s (K p) < 4096 by omega) (A := A ++ [p]) (B := B) (by rw [hL, List.append_assoc]; rfl) (out_take hK h0 hs hA hp ho hsub heq)
  have h2 := far_all hK L s _ hs h0 (fun e he => hB e ((far_sub B s).subset he)) (far_fit hK B s hs)
  rw [far, if_pos ((off_iff (hK p) hs).2 hsub), if_pos]
  rw [h1, heq]; exact h2
theorem out_leave (hK : ∀ e, K e < 4096) (h0 : ∀ e ∈ L, K e ≠ 0) {s : Nat} (hs : s < 4096) {A : List Pl} {p : Pl} (hp : p ∈ L) (ho : Out K L A s) (hne : Sub (K p) s → mosP K L (offN s (K p)) + 1 ≠ mosP K L s) : Out K L (A ++ [p]) s := by
  intro q hq hqs
  rcases List.mem_append.1 hq with h3 | h3
  · exact ho q h3 hqs
  rw [List.mem_singleton] at h3
  subst h3
  have := mos_step hK h0 hs hp hqs
  have := hne hqs
  omega
theorem far_leave (hK : ∀ e, K e < 4096) (h0 : ∀ e ∈ L, K e ≠ 0) {s : Nat} (hs : s < 4096) {A B : List Pl} {p : Pl} (hL : L = A ++ p :: B) (ho : Out K L A s) (hne : Sub (K p) s → mosP K L (offN s (K p)) + 1 ≠ mosP K L s) : far K (p :: B) s = far K B s := by
  have hle := offN_le s (K p)
  have hB : ∀ e ∈ B, e ∈ L := fun e he => by rw [hL]; exact List.mem_append_right _ (List.mem_cons_of_mem _ he)
  have hp : p ∈ L := by rw [hL]; exact List.mem_append_right _ List.mem_cons_self
  rw [far]
  split
  · rename_i h
    have hsub := (off_iff (hK p) hs).1 h
    have h1 := far_rest hK h0 hs (A := A ++ [p]) (B := B) (by rw [hL, List.append_assoc]; rfl) (out_leave hK h0 hs hp ho hne)
    have h2 := far_all hK L (offN s (K p)) _ (by omega) h0 (fun e he => hB e ((far_sub B _).subset he)) (far_fit hK B _ (by omega))
    have h3 := mos_step hK h0 hs hp hsub
    have h4 := hne hsub
    rw [if_neg]
    rw [h1]
    have : (far K B (offN s (K p))).length ≤ mosP K L (offN s (K p)) := h2
    omega
  rfl
/-- The program's number. -/
theorem best_mos {ks : List Nat} (hK : ∀ e, K e < 4096) (h0 : ∀ e ∈ L, K e ≠ 0) (hks : ∀ x, x ∈ ks ↔ ∃ e ∈ L, x = K e) : ∀ (n s : Nat), s < n → s < 4096 → best ks s = mosP K L s
  | 0, _, h, _ => by omega
  | n + 1, s, hn, hs => by
    have hok : Kok ks := fun k hk => by
      obtain ⟨e, he, rfl⟩ := (hks k).1 hk
      exact ⟨h0 e he, hK e⟩
    rw [best_eq hok hs, bestI, List.take_length]
    have hin : ∀ k ∈ ks, offN k s = 0 → best ks (offN s k) = mosP K L (offN s k) ∧ 1 + mosP K L (offN s k) ≤ mosP K L s := fun k hk h => by
      obtain ⟨e, he, rfl⟩ := (hks k).1 hk
      have h1 := off_less hs (hK e) (h0 e he) h
      refine ⟨best_mos hK h0 hks n _ (by omega) (by omega), ?_⟩
      have := mos_step hK h0 hs he ((off_iff (hK e) hs).1 h)
      omega
    have hup : ∀ (l : List Nat) (b : Nat), (∀ k ∈ l, k ∈ ks) → b ≤ mosP K L s → b ≤ l.foldl (fun b k => if offN k s = 0 then max b (1 + best ks (offN s k)) else b) b ∧ l.foldl (fun b k => if offN k s = 0 then max b (1 + best ks (offN s k)) else b) b ≤ mosP K L s ∧ ∀ k ∈ l, offN k s = 0 → 1 + mosP K L (offN s k) ≤ l.foldl (fun b k => if offN k s = 0 then max b (1 + best ks (offN s k)) else b) b := fun l => by
      induction l with
      | nil => intro b _ hb; exact ⟨Nat.le_refl _, hb, fun k hk => by cases hk⟩
      | cons k l ih =>
        intro b hl hb
        rw [List.foldl_cons]
        have hk := hl k List.mem_cons_self
        by_cases h : offN k s = 0
        · obtain ⟨g1, g2⟩ := hin k hk h
          rw [if_pos h, g1]
          obtain ⟨i1, i2, i3⟩ := ih (max b (1 + mosP K L (offN s k))) (fun x hx => hl x (List.mem_cons_of_mem _ hx)) (Nat.max_le.2 ⟨hb, g2⟩)
          have m1 := Nat.le_max_left b (1 + mosP K L (offN s k))
          have m2 := Nat.le_max_right b (1 + mosP K L (offN s k))
          refine ⟨by omega, i2, fun x hx hx0 => ?_⟩
          rcases List.mem_cons.1 hx with rfl | hx
          · omega
          exact i3 x hx hx0
        rw [if_neg h]
        obtain ⟨i1, i2, i3⟩ := ih b (fun x hx => hl x (List.mem_cons_of_mem _ hx)) hb
        refine ⟨i1, i2, fun x hx hx0 => ?_⟩
        rcases List.mem_cons.1 hx with rfl | hx
        · exact absurd hx0 h
        exact i3 x hx hx0
    obtain ⟨_, u2, u3⟩ := hup ks 0 (fun _ h => h) (Nat.zero_le _)
    refine Nat.le_antisymm u2 ?_
    cases hf : far K L s with
    | nil => rw [mosP, hf]; exact Nat.zero_le _
    | cons e t =>
      have he : e ∈ far K L s := by rw [hf]; exact List.mem_cons_self
      obtain ⟨h3, h4⟩ := mos_mem hK h0 hs he
      have := u3 (K e) ((hks _).2 ⟨e, (far_sub L s).subset he, rfl⟩) ((off_iff (hK e) hs).2 h3)
      omega
end
/-! The program's choice -/
def atE (f : Fd) (e : Pl) : Nat := atN f e.1 e.2
theorem atE_lt {f : Fd} (hv : f.valid = true) (e : Pl) : atE f e < 4096 := at_lt (by have := valid_num hv; omega) e.1 e.2
theorem atE_pos {f : Fd} (hv : f.valid = true) {s : Nat} (h : listQ f s = true) : ∀ e ∈ plsL f, atE f e ≠ 0 := fun e he => (kinds_ok hv s h _ (kinds_mem.2 ⟨e, he, rfl⟩)).1
theorem ap_far {f : Fd} (hv : f.valid = true) {s0 : Nat} (hs0 : s0 < 4096) {s : Nat} (h : listQ f s = true) : ∀ k, k ≤ (plsL f).length → (apI f s0 k).z ++ far (atE f) ((plsL f).drop k) (apI f s0 k).s = far (atE f) (plsL f) s0 ∧ Out (atE f) (plsL f) ((plsL f).take k) (apI f s0 k).s
  | 0, _ => ⟨rfl, fun q hq => by cases hq⟩
  | k + 1, hk => by
    have hK := atE_lt hv
    have h0 := atE_pos hv h
    have hkl : k < (plsL f).length := by omega
    obtain ⟨i1, i2⟩ := ap_far hv hs0 h k (by omega)
    have he : (plsL f)[k]? = some (plsL f)[k] := List.getElem?_eq_getElem hkl
    have hd : (plsL f).drop k = (plsL f)[k] :: (plsL f).drop (k + 1) := List.drop_eq_getElem_cons hkl
    have ht : (plsL f).take (k + 1) = (plsL f).take k ++ [(plsL f)[k]] := by rw [List.take_add_one, he]; rfl
    have hL : plsL f = (plsL f).take k ++ (plsL f)[k] :: (plsL f).drop (k + 1) := by rw [← hd, List.take_append_drop]
    have hs : (apI f s0 k).s < 4096 := Nat.lt_of_le_of_lt (ap_ok (f := f) (s0 := s0) k).1 hs0
    have hmem : (plsL f)[k] ∈ plsL f := List.getElem_mem hkl
    have hb : ∀ x, x < 4096 → best (kindsL f) x = mosP (atE f) (plsL f) x := fun x hx => best_mos hK h0 (fun _ => kinds_mem) (x + 1) x (by omega) hx
    have hle := offN_le (apI f s0 k).s (atE f (plsL f)[k])
    rw [ap_next he, ht]
    rw [hd] at i1
    unfold apF
    split
    · rename_i hsub
      have hsub2 : Sub (atE f (plsL f)[k]) (apI f s0 k).s := (off_iff (hK _) hs).1 hsub
      split
      · rename_i heq
        have heq2 : mosP (atE f) (plsL f) (offN (apI f s0 k).s (atE f (plsL f)[k])) + 1 = mosP (atE f) (plsL f) (apI f s0 k).s := by
          rw [← hb _ (by omega), ← hb _ hs]; exact heq
        rw [far_take hK h0 hs hL i2 hsub2 heq2] at i1
        exact ⟨by rw [← i1, List.append_assoc]; rfl, out_take hK h0 hs (fun e he => List.mem_of_mem_take he) hmem i2 hsub2 heq2⟩
      rename_i hne
      have hne2 : Sub (atE f (plsL f)[k]) (apI f s0 k).s → mosP (atE f) (plsL f) (offN (apI f s0 k).s (atE f (plsL f)[k])) + 1 ≠ mosP (atE f) (plsL f) (apI f s0 k).s := fun _ => by
        rw [← hb _ (by omega), ← hb _ hs]; exact hne
      rw [far_leave hK h0 hs hL i2 hne2] at i1
      exact ⟨i1, out_leave hK h0 hs hmem i2 hne2⟩
    rename_i hsub
    have hne2 : Sub (atE f (plsL f)[k]) (apI f s0 k).s → mosP (atE f) (plsL f) (offN (apI f s0 k).s (atE f (plsL f)[k])) + 1 ≠ mosP (atE f) (plsL f) (apI f s0 k).s := fun hq => absurd ((off_iff (hK _) hs).2 hq) hsub
    rw [far_leave hK h0 hs hL i2 hne2] at i1
    exact ⟨i1, out_leave hK h0 hs hmem i2 hne2⟩
theorem ap_is {f : Fd} (hv : f.valid = true) {s0 : Nat} (hs0 : s0 < 4096) {s : Nat} (h : listQ f s = true) : apL f s0 = far (atE f) (plsL f) s0 := by
  have := (ap_far hv hs0 h _ (Nat.le_refl _)).1
  rw [List.drop_length] at this
  rw [apL, ← this]
  exact (List.append_nil _).symm
theorem row_pair (f : Fd) (x : Int) : ∀ j, (rowL f x j).Pairwise bef
  | 0 => List.Pairwise.nil
  | j + 1 => by
    rw [rowL]
    refine List.pairwise_append.2 ⟨row_pair f x j, List.pairwise_singleton _ _, fun a ha b hb => ?_⟩
    rw [List.mem_singleton] at hb; subst hb
    have := row_mem ha
    exact .inr ⟨by simp only; omega, by simp only; omega⟩
theorem plc_pair (f : Fd) : ∀ i, (plcL f i).Pairwise bef
  | 0 => List.Pairwise.nil
  | i + 1 => by
    rw [plcL]
    refine List.pairwise_append.2 ⟨plc_pair f i, row_pair f _ _, fun a ha b hb => ?_⟩
    have h1 := plc_mem ha
    have h2 := row_mem hb
    exact .inl (by omega)
theorem pls_pair (f : Fd) : (plsL f).Pairwise bef := plc_pair f _
end Go.Proofs.Ytabeeaiilanmjaa

/- Plates told in another order; east and north exchanged: what is said of them turns with them. -/
namespace Go.Proofs.Ytabeeaiilanmjaa
open Go.Gh
set_option maxRecDepth 100000
theorem sub_len {α : Type} [DecidableEq α] : ∀ {l m : List α}, l.Nodup → (∀ x ∈ l, x ∈ m) → l.length ≤ m.length
  | [], _, _, _ => Nat.zero_le _
  | x :: l, m, hn, h => by
    obtain ⟨h1, h2⟩ := List.nodup_cons.1 hn
    have hm := h x List.mem_cons_self
    have := sub_len (m := m.erase x) h2 fun y hy => (List.mem_erase_of_ne fun (e : y = x) => h1 (e ▸ hy)).2 (h y (List.mem_cons_of_mem _ hy))
    rw [List.length_erase_of_mem hm] at this
    have := List.length_pos_of_mem hm
    rw [List.length_cons]; omega
theorem nodup_on {α β : Type} {l : List α} {f : α → β} (hn : l.Nodup) (hi : ∀ x ∈ l, ∀ y ∈ l, f x = f y → x = y) : (l.map f).Nodup := by
  induction l with
  | nil => exact List.nodup_nil
  | cons x l ih =>
    obtain ⟨h1, h2⟩ := List.nodup_cons.1 hn
    rw [List.map_cons, List.nodup_cons]
    refine ⟨fun h => ?_, ih h2 fun a ha b hb => hi a (List.mem_cons_of_mem _ ha) b (List.mem_cons_of_mem _ hb)⟩
    obtain ⟨y, hy, e⟩ := List.mem_map.1 h
    exact h1 (hi y (List.mem_cons_of_mem _ hy) x List.mem_cons_self e ▸ hy)
theorem inj_len {α β : Type} [DecidableEq β] {l : List α} {m : List β} (f : α → β) (hn : l.Nodup) (hf : ∀ x ∈ l, f x ∈ m) (hi : ∀ x ∈ l, ∀ y ∈ l, f x = f y → x = y) : l.length ≤ m.length := by
  have := sub_len (nodup_on hn hi) (m := m) fun y hy => by obtain ⟨x, hx, rfl⟩ := List.mem_map.1 hy; exact hf x hx
  rwa [List.length_map] at this
theorem perm_of {α : Type} [DecidableEq α] : ∀ {l m : List α}, l.Nodup → (∀ x ∈ l, x ∈ m) → m.length ≤ l.length → l.Perm m
  | [], m, _, _, hl => by rw [List.eq_nil_of_length_eq_zero (show m.length = 0 by simpa using hl)]
  | x :: l, m, hn, h, hl => by
    obtain ⟨h1, h2⟩ := List.nodup_cons.1 hn
    have hm := h x List.mem_cons_self
    have := perm_of (m := m.erase x) h2 (fun y hy => (List.mem_erase_of_ne fun (e : y = x) => h1 (e ▸ hy)).2 (h y (List.mem_cons_of_mem _ hy))) (by rw [List.length_erase_of_mem hm]; rw [List.length_cons] at hl; omega)
    exact (this.cons x).trans (List.perm_cons_erase hm).symm
structure Perm (n : Nat) (p q : Nat → Nat) : Prop where
  pl : ∀ i, i < n → p i < n
  ql : ∀ i, i < n → q i < n
  pq : ∀ i, i < n → p (q i) = i
  qp : ∀ i, i < n → q (p i) = i
theorem Perm.flip {n : Nat} {p q : Nat → Nat} (h : Perm n p q) : Perm n q p := ⟨h.ql, h.pl, h.qp, h.pq⟩
theorem Perm.inj {n : Nat} {p q : Nat → Nat} (h : Perm n p q) {i j : Nat} (hi : i < n) (hj : j < n) (e : p i = p j) : i = j := by rw [← h.qp i hi, e, h.qp j hj]
def turnP (n tu i : Nat) : Nat := (i + tu) % n
def turnQ (n tu i : Nat) : Nat := (i + (n - tu % n)) % n
theorem turn_perm {n : Nat} (hn : 0 < n) (tu : Nat) : Perm n (turnP n tu) (turnQ n tu) := by
  have ht := Nat.mod_lt tu hn
  have key : ∀ i, i < n → turnP n tu i = if i + tu % n < n then i + tu % n else i + tu % n - n := fun i hi => by
    rw [turnP, Nat.add_mod, Nat.mod_eq_of_lt hi]
    split
    · rename_i h; exact Nat.mod_eq_of_lt h
    rw [Nat.mod_eq_sub_mod (by omega), Nat.mod_eq_of_lt (by omega)]
  have key2 : ∀ i, i < n → turnQ n tu i = if i + (n - tu % n) < n then i + (n - tu % n) else i + (n - tu % n) - n := fun i hi => by
    rw [turnQ]
    split
    · rename_i h; exact Nat.mod_eq_of_lt h
    rw [Nat.mod_eq_sub_mod (by omega), Nat.mod_eq_of_lt (by omega)]
  refine ⟨fun i _ => Nat.mod_lt _ hn, fun i _ => Nat.mod_lt _ hn, fun i hi => ?_, fun i hi => ?_⟩
  · have hq : turnQ n tu i < n := Nat.mod_lt _ hn
    rw [key _ hq, key2 i hi]
    split <;> split <;> omega
  have hp : turnP n tu i < n := Nat.mod_lt _ hn
  rw [key2 _ hp, key i hi]
  split <;> split <;> omega
/-- A set whose plates are told in another order. -/
def mvS (n : Nat) (q : Nat → Nat) (s : Nat) : Nat := setN (fun j => s.testBit (q j)) n
theorem mv_bit {n : Nat} {q : Nat → Nat} {s j : Nat} : (mvS n q s).testBit j = (decide (j < n) && s.testBit (q j)) := setN_bit _ _ _
theorem mv_lt {n : Nat} {q : Nat → Nat} {s : Nat} : mvS n q s < 2 ^ n := setN_lt2 _ _
section
variable {n : Nat} {p q : Nat → Nat}
theorem mv_back (h : Perm n p q) {s : Nat} (hs : s < 2 ^ n) : mvS n p (mvS n q s) = s := bit_ext fun i => by
  rw [mv_bit, mv_bit]
  by_cases hi : i < n
  · rw [decide_eq_true hi, decide_eq_true (h.pl i hi), h.qp i hi]; simp
  rw [decide_eq_false hi, Bool.false_and, lt_bit hs (show n ≤ i by omega)]
theorem mv_and (n : Nat) (q : Nat → Nat) (s t : Nat) : mvS n q (s &&& t) = mvS n q s &&& mvS n q t := bit_ext fun i => by
  rw [Nat.testBit_and, mv_bit, mv_bit, mv_bit, Nat.testBit_and]
  cases decide (i < n) <;> simp
theorem mv_sub (h : Perm n p q) {s t : Nat} (hs : s < 2 ^ n) : Sub (mvS n q s) (mvS n q t) ↔ Sub s t := by
  constructor
  · intro hh i hi
    have hil := lt_of_bit hs hi
    have := hh (p i) (by rw [mv_bit, decide_eq_true (h.pl i hil), h.qp i hil, hi]; rfl)
    rw [mv_bit, h.qp i hil, Bool.and_eq_true] at this
    exact this.2
  intro hh i hi
  rw [mv_bit, Bool.and_eq_true] at hi ⊢
  exact ⟨hi.1, hh _ hi.2⟩
theorem pop_bits : ∀ s, s < 4096 → pop s = ((List.range 12).filter fun i => s.testBit i).length := by decide +kernel
theorem mv_pop_le (h : Perm n p q) (hn : n ≤ 12) {s : Nat} (hs : s < 2 ^ n) : pop s ≤ pop (mvS n q s) := by
  have h2 : 2 ^ n ≤ 2 ^ 12 := Nat.pow_le_pow_right (by omega) hn
  have h3 := mv_lt (n := n) (q := q) (s := s)
  rw [pop_bits s (by omega), pop_bits _ (show mvS n q s < 4096 by omega)]
  refine inj_len p (List.nodup_range.filter _) (fun i hi => ?_) fun i hi j hj e => ?_
  · have hb := (List.mem_filter.1 hi).2
    have hil := lt_of_bit hs hb
    have := h.pl i hil
    refine List.mem_filter.2 ⟨List.mem_range.2 (by omega), ?_⟩
    rw [mv_bit, decide_eq_true this, h.qp i hil, hb]; rfl
  exact h.inj (lt_of_bit hs (List.mem_filter.1 hi).2) (lt_of_bit hs (List.mem_filter.1 hj).2) e
theorem mv_pop (h : Perm n p q) (hn : n ≤ 12) {s : Nat} (hs : s < 2 ^ n) : pop (mvS n q s) = pop s := by
  have h1 := mv_pop_le h hn hs
  have h2 := mv_pop_le h.flip hn (mv_lt (n := n) (q := q) (s := s))
  rw [mv_back h hs] at h2
  omega
end
/-- One field is another one whose plates are told in another order. -/
structure Rot (f x : Fd) (n : Nat) (p q : Nat → Nat) : Prop where
  hp : Perm n p q
  fl : f.ps.length = n
  xl : x.ps.length = n
  get : ∀ i, i < n → x.ps[p i]? = f.ps[i]?
  el : x.el = f.el
  eh : x.eh = f.eh
  nl : x.nl = f.nl
  nh : x.nh = f.nh
  dl : x.dl = f.dl
  dh : x.dh = f.dh
  dep : x.dep = f.dep
  tm : x.tm = f.tm
  gp : x.gp = f.gp
section
variable {f x : Fd} {n : Nat} {p q : Nat → Nat}
theorem Rot.flip (h : Rot f x n p q) : Rot x f n q p := ⟨h.hp.flip, h.xl, h.fl, fun i hi => by rw [← h.get _ (h.hp.ql i hi), h.hp.pq i hi], h.el.symm, h.eh.symm, h.nl.symm, h.nh.symm, h.dl.symm, h.dh.symm, h.dep.symm, h.tm.symm, h.gp.symm⟩
theorem Rot.use (h : Rot f x n p q) (k : Sk) : useQ x k = useQ f k := by rw [useQ, useQ, h.dl, h.dh, h.dep, h.el, h.eh, h.nl, h.nh]
theorem Rot.getq (h : Rot f x n p q) {j : Nat} (hj : j < n) : x.ps[j]? = f.ps[q j]? := by rw [← h.get _ (h.hp.ql j hj), h.hp.pq j hj]
theorem Rot.setq (h : Rot f x n p q) (c : Sk → Bool) : setN (plQ c x.ps) n = mvS n q (setN (plQ c f.ps) n) := bit_ext fun j => by
  rw [setN_bit, mv_bit, setN_bit, plQ, plQ]
  by_cases hj : j < n
  · rw [decide_eq_true hj, decide_eq_true (h.hp.ql j hj), h.getq hj, Bool.true_and, Bool.true_and]
  rw [decide_eq_false hj, Bool.false_and, Bool.false_and]
theorem Rot.atq (h : Rot f x n p q) (a b : Int) : atN x a b = mvS n q (atN f a b) := by
  rw [atN, atN, atK, atK, h.xl, h.fl, ← h.setq]
  congr 2
  funext k
  rw [h.use]
theorem Rot.used (h : Rot f x n p q) : usedN x x.ps.length = mvS n q (usedN f f.ps.length) := by
  rw [usedN, usedN, h.xl, h.fl, ← h.setq]
  congr 2
  funext k
  rw [h.use]
def dayAt (ps : List Sk) (i : Nat) : Int := match ps[i]? with | some k => k.day | none => 0
theorem days_map {ps : List Sk} {z : Nat} : ∀ k, k ≤ ps.length → daysN ps z k = ((List.range k).filter fun i => z.testBit i).map (dayAt ps)
  | 0, _ => rfl
  | k + 1, hk => by
    have hp : ps[k]? = some ps[k] := List.getElem?_eq_getElem (by omega)
    rw [daysN, hp, List.range_succ, List.filter_append, List.map_append, days_map k (by omega)]
    simp only []
    by_cases hb : z.testBit k = true
    · rw [if_pos hb, List.filter_cons_of_pos hb]
      simp [dayAt, hp]
    rw [if_neg hb, List.filter_cons_of_neg hb]
    simp
theorem sort_perm {l m : List Int} (h : l.Perm m) : sortI l = sortI m := sort_unique ((sortI_perm l).trans h) (sortI_sorted l)
theorem Rot.days (h : Rot f x n p q) (z : Nat) : (daysN x.ps (mvS n q z) x.ps.length).Perm (daysN f.ps z f.ps.length) := by
  rw [days_map _ (Nat.le_refl _), days_map _ (Nat.le_refl _), h.xl, h.fl]
  have h1 : (((List.range n).filter fun i => z.testBit i).map p).Perm ((List.range n).filter fun i => (mvS n q z).testBit i) := by
    refine perm_of (nodup_on (List.nodup_range.filter _) fun i hi j hj e => h.hp.inj (List.mem_range.1 (List.mem_filter.1 hi).1) (List.mem_range.1 (List.mem_filter.1 hj).1) e) (fun y hy => ?_) ?_
    · obtain ⟨i, hi, rfl⟩ := List.mem_map.1 hy
      obtain ⟨h2, h3⟩ := List.mem_filter.1 hi
      have hil := List.mem_range.1 h2
      refine List.mem_filter.2 ⟨List.mem_range.2 (h.hp.pl i hil), ?_⟩
      rw [mv_bit, decide_eq_true (h.hp.pl i hil), h.hp.qp i hil, Bool.true_and]; exact h3
    rw [List.length_map]
    refine inj_len q (List.nodup_range.filter _) (fun i hi => ?_) fun i hi j hj e => h.hp.flip.inj (List.mem_range.1 (List.mem_filter.1 hi).1) (List.mem_range.1 (List.mem_filter.1 hj).1) e
    obtain ⟨h2, h3⟩ := List.mem_filter.1 hi
    have hil := List.mem_range.1 h2
    rw [mv_bit, decide_eq_true hil, Bool.true_and] at h3
    exact List.mem_filter.2 ⟨List.mem_range.2 (h.hp.ql i hil), h3⟩
  refine ((h1.map (dayAt x.ps)).symm).trans ?_
  rw [List.map_map]
  refine List.Perm.of_eq (List.map_congr_left fun i hi => ?_)
  have hil := List.mem_range.1 (List.mem_filter.1 hi).1
  show dayAt x.ps (p i) = dayAt f.ps i
  rw [dayAt, dayAt, h.get i hil]
theorem Rot.serv (h : Rot f x n p q) (z : Nat) : servQ x (mvS n q z) = servQ f z := by
  rw [servQ, servQ, h.tm, h.gp, sort_perm (h.days z)]
theorem Rot.list (h : Rot f x n p q) (s : Nat) : listQ x (mvS n q s) = listQ f s := Bool.eq_iff_iff.2 (by
  rw [list_iff, list_iff, h.el, h.eh, h.nl, h.nh]
  refine forall_congr' fun a => forall_congr' fun b => imp_congr_right fun _ => ?_
  rw [h.atq, ← mv_and, h.serv])
theorem Rot.all (h : Rot f x n p q) : listQ x (usedN x x.ps.length) = listQ f (usedN f f.ps.length) := by rw [h.used, h.list]
theorem Rot.sho_le (h : Rot f x n p q) (hn : n ≤ 12) {w v : Nat} (hw : Sho f w) (hv : Sho x v) : pop v ≤ pop w := by
  have h1 := hw.lt
  rw [h.fl] at h1
  have := hv.min (mvS n q w) (by rw [h.xl]; exact mv_lt) (by rw [h.list]; exact hw.ls)
  rw [mv_pop h.hp hn h1] at this
  omega
theorem Rot.sho (h : Rot f x n p q) (hn : n ≤ 12) {w v : Nat} (hw : Sho f w) (hv : Sho x v) : pop v = pop w := Nat.le_antisymm (h.sho_le hn hw hv) (h.flip.sho_le hn hv hw)
theorem num_filter (f : Fd) (w : Nat) : ∀ k, numR f w k = ((List.range k).filter (sameQ f w)).length
  | 0 => rfl
  | k + 1 => by
    rw [numR, List.range_succ, List.filter_append, List.length_append, num_filter f w k]
    by_cases hs : sameQ f w k = true
    · rw [if_pos hs, List.filter_cons_of_pos hs]; rfl
    rw [if_neg hs, List.filter_cons_of_neg hs]; rfl
theorem Rot.num_le (h : Rot f x n p q) (hn : n ≤ 12) {w v : Nat} (hw : Sho f w) (hv : Sho x v) : numR f w (2 ^ n) ≤ numR x v (2 ^ n) := by
  rw [num_filter, num_filter]
  refine inj_len (mvS n q) (List.nodup_range.filter _) (fun s hs => ?_) fun s hs t ht e => ?_
  · obtain ⟨h1, h2⟩ := List.mem_filter.1 hs
    rw [sameQ, Bool.and_eq_true, decide_eq_true_eq] at h2
    refine List.mem_filter.2 ⟨List.mem_range.2 mv_lt, ?_⟩
    rw [sameQ, h.list, h2.2, mv_pop h.hp hn (List.mem_range.1 h1), h2.1, h.sho hn hw hv, decide_eq_true rfl]; rfl
  rw [← mv_back h.hp (List.mem_range.1 (List.mem_filter.1 hs).1), e, mv_back h.hp (List.mem_range.1 (List.mem_filter.1 ht).1)]
theorem Rot.cnt (h : Rot f x n p q) (hn : n ≤ 12) (hvf : f.valid = true) (hvx : x.valid = true) {w v : Nat} (hw : Sho f w) (hv : Sho x v) : cntA x v = cntA f w := by
  rw [cnt_num hvx hv, cnt_num hvf hw, h.xl, h.fl]
  exact Nat.le_antisymm (h.flip.num_le hn hv hw) (h.num_le hn hw hv)
theorem Rot.need (h : Rot f x n p q) (hvf : f.valid = true) (hvx : x.valid = true) (hq : listQ f (usedN f f.ps.length) = true) {i : Nat} (hi : i < n) : (needN x x.ps.length).testBit (p i) = (needN f f.ps.length).testBit i := by
  have hn := valid_num hvf
  have hfl := h.fl
  have hxl := h.xl
  have hpi := h.hp.pl i hi
  rw [need_bit hvx (by rw [h.all]; exact hq) (by omega), need_bit hvf hq (by omega), ← h.list]
  congr 2
  refine bit_ext fun j => ?_
  by_cases hj : j < n
  · have hqj := h.hp.ql j hj
    rw [but_bit (by omega) (by omega) (by omega), mv_bit, decide_eq_true hj, but_bit (by omega) (by omega) (by omega), Bool.true_and]
    have : p i = j ↔ i = q j := ⟨fun e => by rw [← e, h.hp.qp i hi], fun e => by rw [e, h.hp.pq j hj]⟩
    rw [decide_eq_decide.2 this]
  rw [lt_bit (but_lt x (p i)) (by omega), lt_bit (mv_lt (n := n) (q := q)) (by omega)]
theorem mv_off (h : Perm n p q) (hn : n ≤ 12) {s k : Nat} (hs : s < 2 ^ n) (hk : k < 2 ^ n) : offN (mvS n q s) (mvS n q k) = mvS n q (offN s k) := by
  have h2 : 2 ^ n ≤ 2 ^ 12 := Nat.pow_le_pow_right (by omega) hn
  have h3 := mv_lt (n := n) (q := q) (s := s)
  have h4 := mv_lt (n := n) (q := q) (s := k)
  refine bit_ext fun i => ?_
  rw [offN_bit (by omega) (by omega), mv_bit, mv_bit, mv_bit, offN_bit (by omega) (by omega)]
  cases decide (i < n) <;> simp
theorem far_mv (h : Perm n p q) (hn : n ≤ 12) {K : Pl → Nat} (hK : ∀ e, K e < 2 ^ n) : ∀ (L : List Pl) (s : Nat), s < 2 ^ n → far (fun e => mvS n q (K e)) L (mvS n q s) = far K L s
  | [], _, _ => rfl
  | e :: L, s, hs => by
    have h2 : 2 ^ n ≤ 2 ^ 12 := Nat.pow_le_pow_right (by omega) hn
    have h3 := mv_lt (n := n) (q := q) (s := s)
    have h4 := mv_lt (n := n) (q := q) (s := K e)
    have h5 := hK e
    have h6 := offN_le s (K e)
    have hc : offN (mvS n q (K e)) (mvS n q s) = 0 ↔ offN (K e) s = 0 := by
      rw [off_iff (by omega) (by omega), off_iff (by omega) (by omega), mv_sub h h5]
    rw [far, far]
    rw [mv_off h hn hs h5, far_mv h hn hK L s hs, far_mv h hn hK L _ (by omega)]
    by_cases h0 : offN (K e) s = 0
    · rw [if_pos (hc.2 h0), if_pos h0]
    rw [if_neg fun k => h0 (hc.1 k), if_neg h0]
theorem Rot.pls (h : Rot f x n p q) : plsL x = plsL f := by
  have h1 : wid x = wid f := by rw [wid, wid, h.el, h.eh]
  have h2 : hgt x = hgt f := by rw [hgt, hgt, h.nl, h.nh]
  have h3 : ∀ (a : Int) (j : Nat), rowL x a j = rowL f a j := fun a j => by
    induction j with
    | zero => rfl
    | succ j ih => rw [rowL, rowL, ih, h.nl]
  have h4 : ∀ i, plcL x i = plcL f i := fun i => by
    induction i with
    | zero => rfl
    | succ i ih => rw [plcL, plcL, ih, h.el, h2, h3]
  rw [plsL, plsL, h1, h4]
theorem Rot.ap (h : Rot f x n p q) (hvf : f.valid = true) (hvx : x.valid = true) (hq : listQ f (usedN f f.ps.length) = true) : apL x (allS x.ps.length) = apL f (allS f.ps.length) := by
  have hn := valid_num hvf
  have hfl := h.fl
  have hxl := h.xl
  rw [ap_is hvx (allS_lt (by omega)) (by rw [h.all]; exact hq), ap_is hvf (allS_lt (by omega)) hq, h.pls, h.xl, h.fl]
  have e1 : atE x = fun e => mvS n q (atE f e) := funext fun e => h.atq e.1 e.2
  have e2 : mvS n q (allS n) = allS n := bit_ext fun i => by
    rw [mv_bit, all_bit, all_bit]
    by_cases hi : i < n
    · rw [decide_eq_true hi, decide_eq_true (h.hp.ql i hi)]; simp
    rw [decide_eq_false hi]; simp
  have h0 : allS n < 2 ^ n := by have := Nat.two_pow_pos n; rw [allS]; omega
  have h1 := far_mv h.hp (by omega) (K := atE f) (fun e => by have := setN_lt2 (plQ (fun p => useQ f p && hasQ p e.1 e.2) f.ps) f.ps.length; rw [← h.fl]; exact this) (plsL f) (allS n) h0
  rw [e1]
  rw [e2] at h1
  exact h1
end
end Go.Proofs.Ytabeeaiilanmjaa

/- The fields of CoverTurned: plates in another order, east and north exchanged; their arrays cell by cell. -/
namespace Go.Proofs.Ytabeeaiilanmjaa
open Go.Gh
set_option maxRecDepth 100000
def swS (p : Sk) : Sk := ⟨p.nl, p.nh, p.el, p.eh, p.day, p.dep⟩
def swF (f : Fd) : Fd := ⟨f.ps.map swS, f.nl, f.nh, f.el, f.eh, f.dl, f.dh, f.dep, f.tm, f.gp⟩
theorem sw_len (f : Fd) : (swF f).ps.length = f.ps.length := List.length_map _
theorem sw_get {f : Fd} {i : Nat} : (swF f).ps[i]? = (f.ps[i]?).map swS := List.getElem?_map
theorem sw_use (f : Fd) (p : Sk) : useQ (swF f) (swS p) = useQ f p := Bool.eq_iff_iff.2 (by
  rw [use_iff, use_iff]
  exact ⟨fun h => ⟨h.1, h.2.2, h.2.1⟩, fun h => ⟨h.1, h.2.2, h.2.1⟩⟩)
theorem sw_has (p : Sk) (a b : Int) : hasQ (swS p) b a = hasQ p a b := by rw [hasQ, hasQ, Bool.and_comm]; rfl
theorem sw_at (f : Fd) (a b : Int) : atN (swF f) b a = atN f a b := bit_ext fun i => by
  rw [at_bit, at_bit, sw_get]
  constructor
  · rintro ⟨p, h1, h2, h3⟩
    obtain ⟨k, hk, rfl⟩ := Option.map_eq_some_iff.1 h1
    exact ⟨k, hk, by rw [← sw_use]; exact h2, by rw [← sw_has]; exact h3⟩
  rintro ⟨k, h1, h2, h3⟩
  exact ⟨swS k, by rw [h1]; rfl, by rw [sw_use]; exact h2, by rw [sw_has]; exact h3⟩
theorem sw_used (f : Fd) : usedN (swF f) (swF f).ps.length = usedN f f.ps.length := bit_ext fun i => by
  rw [usedN, usedN, setN_bit, setN_bit, sw_len, plQ, plQ, sw_get]
  cases f.ps[i]? with
  | none => rfl
  | some k => simp only [Option.map_some, sw_use]
theorem sw_days (f : Fd) (z : Nat) : ∀ k, daysN (swF f).ps z k = daysN f.ps z k
  | 0 => rfl
  | k + 1 => by
    rw [daysN, daysN, sw_days f z k, sw_get]
    cases f.ps[k]? with
    | none => rfl
    | some p => rfl
theorem sw_serv (f : Fd) (z : Nat) : servQ (swF f) z = servQ f z := by
  rw [servQ, servQ, sw_days, sw_len]; rfl
theorem sw_list (f : Fd) (s : Nat) : listQ (swF f) s = listQ f s := Bool.eq_iff_iff.2 (by
  rw [list_iff, list_iff]
  constructor
  · intro h a b hab
    have := h b a ⟨hab.2, hab.1⟩
    rwa [sw_at, sw_serv] at this
  intro h a b hab
  rw [sw_at, sw_serv]
  exact h b a ⟨hab.2, hab.1⟩)
theorem sw_sets (f : Fd) : setsL (swF f) = setsL f := by rw [setsL, setsL, sw_used, sw_len]
theorem sw_find (f : Fd) : (setsL (swF f)).find? (listQ (swF f)) = (setsL f).find? (listQ f) := by rw [sw_sets, show listQ (swF f) = listQ f from funext (sw_list f)]
theorem valid_mk {f : Fd} (h1 : (0 ≤ f.el ∧ f.el ≤ f.eh ∧ f.eh ≤ 32) ∧ (0 ≤ f.nl ∧ f.nl ≤ f.nh ∧ f.nh ≤ 32) ∧ (0 ≤ f.dl ∧ f.dl ≤ f.dh ∧ f.dh ≤ 65536) ∧ (0 ≤ f.dep ∧ f.dep ≤ 100) ∧ (1 ≤ f.tm ∧ f.tm ≤ 4) ∧ (0 ≤ f.gp ∧ f.gp ≤ 65536) ∧ f.ps.length ≤ 12) (h2 : ∀ p ∈ f.ps, badS p = false) : f.valid = true := by
  have h3 : f.ps.any badS = false := List.any_eq_false.2 fun p hp => by rw [h2 p hp]; simp
  have h4 : (f.ps.length : Int) ≤ 12 := by omega
  simp only [Fd.valid, Fd.head, Fd.nums, spB, inB, h3, Bool.and_eq_true, decide_eq_true_eq, Bool.not_false]
  exact ⟨⟨⟨⟨⟨⟨⟨h1.1.1, h1.1.2.1⟩, h1.1.2.2⟩, ⟨h1.2.1.1, h1.2.1.2.1⟩, h1.2.1.2.2⟩, ⟨h1.2.2.1.1, h1.2.2.1.2.1⟩, h1.2.2.1.2.2⟩, ⟨h1.2.2.2.1, h1.2.2.2.2.1⟩, h1.2.2.2.2.2.1⟩, h4⟩, trivial⟩
theorem valid_bad {f : Fd} (h : f.valid = true) {p : Sk} (hp : p ∈ f.ps) : badS p = false := by
  simp only [Fd.valid, Bool.and_eq_true, Bool.not_eq_true', List.any_eq_false] at h
  simpa using h.2 p hp
theorem sw_bad (p : Sk) : badS (swS p) = badS p := by
  rw [badS, badS]
  dsimp only [swS]
  rw [Bool.or_comm (!spB p.nl p.nh 32)]
theorem sw_valid {f : Fd} (h : f.valid = true) : (swF f).valid = true := by
  have hn := valid_num h
  refine valid_mk ⟨hn.2.1, hn.1, hn.2.2.1, hn.2.2.2.1, hn.2.2.2.2.1, hn.2.2.2.2.2.1, by rw [sw_len]; exact hn.2.2.2.2.2.2⟩ fun p hp => ?_
  obtain ⟨k, hk, rfl⟩ := List.mem_map.1 hp
  rw [sw_bad]; exact valid_bad h hk
theorem sw_ap {f : Fd} (hv : f.valid = true) (hq : listQ f (usedN f f.ps.length) = true) : (apL (swF f) (allS (swF f).ps.length)).length = (apL f (allS f.ps.length)).length := by
  have hn := valid_num hv
  have ha := allS_lt (n := f.ps.length) (by omega)
  have hvy := sw_valid hv
  rw [ap_is hvy (by rw [sw_len]; exact ha) (by rw [sw_list]; exact hq), ap_is hv ha hq, sw_len]
  have hK := atE_lt hv
  have hKy := atE_lt hvy
  have e1 : ∀ e : Pl, atE (swF f) (e.2, e.1) = atE f e := fun e => sw_at f e.1 e.2
  have mem : ∀ e : Pl, e ∈ plsL f → ((e.2, e.1) : Pl) ∈ plsL (swF f) := fun e he => by
    have := pls_iff.1 he
    exact pls_iff.2 ⟨this.2, this.1⟩
  have mem2 : ∀ e : Pl, e ∈ plsL (swF f) → ((e.2, e.1) : Pl) ∈ plsL f := fun e he => by
    have := pls_iff.1 he
    exact pls_iff.2 ⟨this.2, this.1⟩
  have sw2 : ∀ e : Pl, atE (swF f) e = atE f (e.2, e.1) := fun e => sw_at f e.2 e.1
  apply Nat.le_antisymm
  · have hf := far_fit hKy (plsL (swF f)) (allS f.ps.length) ha
    have := far_all hK (plsL f) (allS f.ps.length) ((far (atE (swF f)) (plsL (swF f)) (allS f.ps.length)).map fun e => (e.2, e.1)) ha (atE_pos hv hq) (fun e he => by
      obtain ⟨d, hd, rfl⟩ := List.mem_map.1 he
      exact mem2 d ((far_sub _ _).subset hd)) ⟨fun e he => by
      obtain ⟨d, hd, rfl⟩ := List.mem_map.1 he
      rw [← sw2]; exact hf.sub d hd, by
      rw [List.pairwise_map]
      exact hf.dis.imp fun {a b} h => by rw [sw2, sw2] at h; exact h⟩
    rwa [List.length_map] at this
  have hf := far_fit hK (plsL f) (allS f.ps.length) ha
  have := far_all hKy (plsL (swF f)) (allS f.ps.length) ((far (atE f) (plsL f) (allS f.ps.length)).map fun e => (e.2, e.1)) ha (atE_pos hvy (s := usedN f f.ps.length) (by rw [sw_list]; exact hq)) (fun e he => by
    obtain ⟨d, hd, rfl⟩ := List.mem_map.1 he
    exact mem d ((far_sub _ _).subset hd)) ⟨fun e he => by
    obtain ⟨d, hd, rfl⟩ := List.mem_map.1 he
    rw [e1]; exact hf.sub d hd, by
    rw [List.pairwise_map]
    exact hf.dis.imp fun {a b} h => by rw [e1, e1]; exact h⟩
  rwa [List.length_map] at this
/-! Plates in another order. -/
def zSk : Sk := ⟨0, 0, 0, 0, 0, 0⟩
def turnL (ps : List Sk) (tu : Nat) : List Sk := (List.range ps.length).map fun j => (ps[turnQ ps.length tu j]?).getD zSk
def turnF (f : Fd) (tu : Nat) : Fd := ⟨turnL f.ps tu, f.el, f.eh, f.nl, f.nh, f.dl, f.dh, f.dep, f.tm, f.gp⟩
theorem turn_len (ps : List Sk) (tu : Nat) : (turnL ps tu).length = ps.length := by rw [turnL, List.length_map, List.length_range]
theorem turn_rot (f : Fd) (tu : Nat) : Rot f (turnF f tu) f.ps.length (turnP f.ps.length tu) (turnQ f.ps.length tu) := by
  have hp : Perm f.ps.length (turnP f.ps.length tu) (turnQ f.ps.length tu) := by
    rcases Nat.eq_zero_or_pos f.ps.length with h | h
    · rw [h]; exact ⟨fun i hi => absurd hi (by omega), fun i hi => absurd hi (by omega), fun i hi => absurd hi (by omega), fun i hi => absurd hi (by omega)⟩
    exact turn_perm h tu
  refine ⟨hp, rfl, turn_len _ _, fun i hi => ?_, rfl, rfl, rfl, rfl, rfl, rfl, rfl, rfl, rfl⟩
  show (turnL f.ps tu)[turnP f.ps.length tu i]? = _
  rw [turnL, List.getElem?_map, List.getElem?_range (hp.pl i hi), Option.map_some, hp.qp i hi, List.getElem?_eq_getElem hi]; rfl
theorem turn_valid {f : Fd} (h : f.valid = true) (tu : Nat) : (turnF f tu).valid = true := by
  have hn := valid_num h
  refine valid_mk ⟨hn.1, hn.2.1, hn.2.2.1, hn.2.2.2.1, hn.2.2.2.2.1, hn.2.2.2.2.2.1, by show (turnL f.ps tu).length ≤ 12; rw [turn_len]; exact hn.2.2.2.2.2.2⟩ fun p hp => ?_
  obtain ⟨j, hj, rfl⟩ := List.mem_map.1 hp
  have hjl := List.mem_range.1 hj
  have hr := turn_rot f tu
  rw [List.getElem?_eq_getElem (hr.hp.ql j hjl)]
  exact valid_bad h (List.getElem_mem _)
def xK (ps : List Sk) (tu k : Nat) : List Sk := (List.range ps.length).map fun j => if turnQ ps.length tu j < k then (ps[turnQ ps.length tu j]?).getD zSk else zSk
def yK (ps : List Sk) (k : Nat) : List Sk := (List.range ps.length).map fun j => if j < k then swS ((ps[j]?).getD zSk) else zSk
theorem xK_len (ps : List Sk) (tu k : Nat) : (xK ps tu k).length = ps.length := by rw [xK, List.length_map, List.length_range]
theorem yK_len (ps : List Sk) (k : Nat) : (yK ps k).length = ps.length := by rw [yK, List.length_map, List.length_range]
theorem xK_succ {ps : List Sk} {tu k : Nat} {p : Sk} (hp : ps[k]? = some p) : xK ps tu (k + 1) = (xK ps tu k).set (turnP ps.length tu k) p := by
  have hk := (List.getElem?_eq_some_iff.1 hp).1
  have hpm := turn_perm (show 0 < ps.length by omega) tu
  refine List.ext_getElem? fun j => ?_
  rw [List.getElem?_set, xK_len]
  by_cases hj : j < ps.length
  · have hqj := hpm.ql j hj
    rw [xK, List.getElem?_map, List.getElem?_range hj, Option.map_some]
    by_cases e : turnP ps.length tu k = j
    · rw [if_pos e, if_pos (show turnP ps.length tu k < ps.length by omega), ← e, hpm.qp k hk, if_pos (show k < k + 1 by omega), hp]; rfl
    rw [if_neg e, xK, List.getElem?_map, List.getElem?_range hj, Option.map_some]
    have hne : turnQ ps.length tu j ≠ k := fun h => e (by rw [← h, hpm.pq j hj])
    by_cases h2 : turnQ ps.length tu j < k
    · rw [if_pos h2, if_pos (by omega)]
    rw [if_neg h2, if_neg (by omega)]
  have hpk := hpm.pl k hk
  rw [if_neg (by omega), List.getElem?_eq_none (by rw [xK_len]; omega), List.getElem?_eq_none (by rw [xK_len]; omega)]
theorem yK_succ {ps : List Sk} {k : Nat} {p : Sk} (hp : ps[k]? = some p) : yK ps (k + 1) = (yK ps k).set k (swS p) := by
  have hk := (List.getElem?_eq_some_iff.1 hp).1
  refine List.ext_getElem? fun j => ?_
  rw [List.getElem?_set, yK_len]
  by_cases hj : j < ps.length
  · rw [yK, List.getElem?_map, List.getElem?_range hj, Option.map_some]
    by_cases e : k = j
    · subst e
      rw [if_pos rfl, if_pos hk, if_pos (by omega), hp]; rfl
    rw [if_neg e, yK, List.getElem?_map, List.getElem?_range hj, Option.map_some]
    by_cases h2 : j < k
    · rw [if_pos h2, if_pos (by omega)]
    rw [if_neg h2, if_neg (by omega)]
  rw [if_neg (by omega), List.getElem?_eq_none (by rw [yK_len]; omega), List.getElem?_eq_none (by rw [yK_len]; omega)]
theorem xK_zero (ps : List Sk) (tu : Nat) : xK ps tu 0 = List.replicate ps.length zSk := by
  refine List.ext_getElem? fun j => ?_
  rw [xK, List.getElem?_map, List.getElem?_replicate]
  by_cases hj : j < ps.length
  · rw [List.getElem?_range hj, if_pos hj]; rfl
  rw [List.getElem?_eq_none (by simp; omega), if_neg hj]; rfl
theorem yK_zero (ps : List Sk) : yK ps 0 = List.replicate ps.length zSk := by
  refine List.ext_getElem? fun j => ?_
  rw [yK, List.getElem?_map, List.getElem?_replicate]
  by_cases hj : j < ps.length
  · rw [List.getElem?_range hj, if_pos hj]; rfl
  rw [List.getElem?_eq_none (by simp; omega), if_neg hj]; rfl
theorem xK_all (ps : List Sk) (tu : Nat) : xK ps tu ps.length = turnL ps tu := by
  rw [xK, turnL]
  refine List.map_congr_left fun j hj => ?_
  have := List.mem_range.1 hj
  rw [if_pos (show turnQ ps.length tu j < ps.length from Nat.mod_lt _ (by omega))]
theorem yK_all (f : Fd) : yK f.ps f.ps.length = (swF f).ps := by
  refine List.ext_getElem? fun j => ?_
  rw [sw_get, yK, List.getElem?_map]
  by_cases hj : j < f.ps.length
  · rw [List.getElem?_range hj, Option.map_some, if_pos hj, List.getElem?_eq_getElem hj]; rfl
  rw [List.getElem?_eq_none (by simp; omega), List.getElem?_eq_none (by omega)]; rfl
/-! Arrays, cell by cell. -/
def skG (p : Sk) : List G := [.p (.int .i64 p.el), .p (.int .i64 p.eh), .p (.int .i64 p.nl), .p (.int .i64 p.nh), .p (.int .i64 p.day), .p (.int .i64 p.dep)]
theorem flat_len (l : List Sk) : (l.flatMap skG).length = l.length * 6 := by
  induction l with
  | nil => rfl
  | cons p l ih => rw [List.flatMap_cons, List.length_append, ih, List.length_cons]; simp [skG]; omega
theorem flat_splice : ∀ (l : List Sk) (j : Nat) (p : Sk), j < l.length → splice (l.flatMap skG) (j * 6) (skG p) = (l.set j p).flatMap skG
  | [], j, p, h => by simp at h
  | x :: l, 0, p, _ => by
    show ((skG x ++ l.flatMap skG).take 0) ++ skG p ++ (skG x ++ l.flatMap skG).drop (0 + 6) = skG p ++ l.flatMap skG
    simp [skG]
  | x :: l, j + 1, p, h => by
    have ih := flat_splice l j p (by simpa using h)
    simp only [splice] at ih ⊢
    rw [List.flatMap_cons, List.set_cons_succ, List.flatMap_cons, ← ih, List.take_append, List.drop_append]
    have e : (skG x).length = 6 := rfl
    have e2 : (skG p).length = 6 := rfl
    rw [e, e2, List.take_of_length_le (show (skG x).length ≤ (j + 1) * 6 by rw [e]; omega), List.drop_eq_nil_of_le (show (skG x).length ≤ (j + 1) * 6 + 6 by rw [e]; omega), show (j + 1) * 6 - 6 = j * 6 by omega, show (j + 1) * 6 + 6 - 6 = j * 6 + 6 by omega]
    simp only [List.append_assoc, List.nil_append]
theorem flat_cells (l : List Sk) : l.flatMap skG = ((l.map pS).flatMap P.cells).map .p := by
  induction l with
  | nil => rfl
  | cons p l ih => rw [List.flatMap_cons, ih, List.map_cons, List.flatMap_cons, List.map_append]; rfl
theorem make_cells (n : Nat) : ((List.range (n * 6)).map fun i => [G.p (.int .i64 0), G.p (.int .i64 0), G.p (.int .i64 0), G.p (.int .i64 0), G.p (.int .i64 0), G.p (.int .i64 0)].getD (i % 6) .undef) = (List.replicate n zSk).flatMap skG := by
  induction n with
  | zero => rfl
  | succ n ih =>
    have h1 : (n + 1) * 6 = n * 6 + 1 + 1 + 1 + 1 + 1 + 1 := by omega
    rw [h1]
    simp only [List.range_succ, List.map_append, List.map_cons, List.map_nil, ih, List.replicate_succ', List.flatMap_append, List.append_assoc]
    congr 1
    have m0 : n * 6 % 6 = 0 := by omega
    have m1 : (n * 6 + 1) % 6 = 1 := by omega
    have m2 : (n * 6 + 1 + 1) % 6 = 2 := by omega
    have m3 : (n * 6 + 1 + 1 + 1) % 6 = 3 := by omega
    have m4 : (n * 6 + 1 + 1 + 1 + 1) % 6 = 4 := by omega
    have m5 : (n * 6 + 1 + 1 + 1 + 1 + 1) % 6 = 5 := by omega
    rw [m0, m1, m2, m3, m4, m5]; rfl
end Go.Proofs.Ytabeeaiilanmjaa

/- A rule of drawn regions: a register's truth is known. -/
namespace Go.Proofs.Ytabeeaiilanmjaa
open Go.Gh
set_option maxRecDepth 100000
variable {E : Env Try.prog} {C : Cx E} {r : Option Nat} {ops : Array Oper} {Q : GE → Sg E → Prop} {l : List (Nat × G)} {m : List (Nat × Ob)} {A : E.α} {df : List GD}
theorem drb {lo : Nat} {σ0 : Sg E} {ids : List (List Nat × List Nat)} (t : Nat) (b : Bool) {x : Bool} (hx : mkFr l t = .p (.bool x) := by (simp only [mkFr_cons, Nat.reduceEqDiff, reduceIte] <;> rfl)) (h : x = b) (k : segK C r ops (GPost C Q) lo σ0 ids (sg ((t, .p (.bool b)) :: l) m A df)) : segK C r ops (GPost C Q) lo σ0 ids (sg l m A df) := by
  subst h
  rwa [sg, mkFr_again hx] at k
end Go.Proofs.Ytabeeaiilanmjaa

/- The document: has some plate that is of use two places? -/
namespace Go.Proofs.Ytabeeaiilanmjaa
open Go.Gh
set_option maxRecDepth 100000
set_option maxHeartbeats 4000000
structure kWe1 (c : Prop) : Prop where
  h : c := by (first | exact True.intro | omega | (simp only [inI]; omega) | (simp [P.size, pS, all_int, allOne_p, goods_p, allOne, goods, good, G.one, P.one, P.cells] <;> first | omega | assumption | simp_all))
def togB (f : Fd) (a b : Pl) (p : Sk) : Bool := (((useQ f p && inB a.1 p.el p.eh) && inB a.2 p.nl p.nh) && inB b.1 p.el p.eh) && inB b.2 p.nl p.nh
def togQ (f : Fd) (a b : Pl) : Bool := f.ps.any (togB f a b)
theorem tog_yes {f : Fd} {a b : Pl} {k : Nat} {p : Sk} (hp : f.ps[k]? = some p) (h2 : togB f a b p = true) : togQ f a b = true := List.any_eq_true.2 ⟨p, List.mem_of_getElem? hp, h2⟩
theorem atE_bit {f : Fd} {e : Pl} {k : Nat} : (atE f e).testBit k = true ↔ ∃ p, f.ps[k]? = some p ∧ useQ f p = true ∧ hasQ p e.1 e.2 = true := by
  rw [atE, atN, atK, setN_bit, Bool.and_eq_true, decide_eq_true_eq, plQ]
  constructor
  · rintro ⟨hk, h⟩
    rw [List.getElem?_eq_getElem hk] at h
    simp only [Bool.and_eq_true] at h
    exact ⟨_, List.getElem?_eq_getElem hk, h⟩
  rintro ⟨p, hp, h1, h2⟩
  refine ⟨(List.getElem?_eq_some_iff.1 hp).1, ?_⟩
  rw [hp]
  simp only [h1, h2, Bool.and_self]
theorem togB_iff {f : Fd} {a b : Pl} {p : Sk} : togB f a b p = true ↔ useQ f p = true ∧ hasQ p a.1 a.2 = true ∧ hasQ p b.1 b.2 = true := by
  simp only [togB, hasQ, Bool.and_eq_true, and_assoc]
theorem tog_dis {f : Fd} {a b : Pl} : togQ f a b = false ↔ Dis (atE f a) (atE f b) := by
  constructor
  · intro h i hi
    obtain ⟨p, hp, h1, h2⟩ := atE_bit.1 hi.1
    obtain ⟨q, hq, h3, h4⟩ := atE_bit.1 hi.2
    rw [hp] at hq; cases hq
    rw [tog_yes hp (togB_iff.2 ⟨h1, h2, h4⟩)] at h
    cases h
  intro h
  cases e : togQ f a b with
  | false => rfl
  | true =>
    obtain ⟨p, hp, h1⟩ := List.any_eq_true.1 e
    obtain ⟨k, hk, rfl⟩ := List.getElem_of_mem hp
    obtain ⟨h2, h3, h4⟩ := togB_iff.1 h1
    exact absurd ⟨atE_bit.2 ⟨_, List.getElem?_eq_getElem hk, h2, h3⟩, atE_bit.2 ⟨_, List.getElem?_eq_getElem hk, h2, h4⟩⟩ (h k)
end Go.Proofs.Ytabeeaiilanmjaa

/- Places that are apart need plates of their own: no list is shorter. -/
namespace Go.Proofs.Ytabeeaiilanmjaa
open Go.Gh
set_option maxRecDepth 100000
theorem pop_two : ∀ (n a b c : Nat), a < 2 ^ n → b < 2 ^ n → c < 2 ^ n → n ≤ 12 → Sub a c → Sub b c → Dis a b → pop a + pop b ≤ pop c
  | 0, a, b, c, h1, h2, h3, _, _, _, _ => by
    obtain rfl : a = 0 := by omega
    obtain rfl : b = 0 := by omega
    rw [pop_zero]; exact Nat.zero_le _
  | n + 1, a, b, c, h1, h2, h3, hn, s1, s2, d => by
    have hp : 2 ^ (n + 1) ≤ 2 ^ 12 := Nat.pow_le_pow_right (by omega) hn
    have e1 := pop_half (m := a) (by omega)
    have e2 := pop_half (m := b) (by omega)
    have e3 := pop_half (m := c) (by omega)
    rw [Nat.pow_succ] at h1 h2 h3
    have ih := pop_two n (a / 2) (b / 2) (c / 2) (by omega) (by omega) (by omega) (by omega) s1.half s2.half (fun i hi => by
      rw [half_bit, half_bit] at hi; exact d _ hi)
    have hb : a % 2 + b % 2 ≤ c % 2 := by
      rw [mod_bit a, mod_bit b, mod_bit c]
      by_cases h0 : a.testBit 0 = true
      · have hb0 : b.testBit 0 ≠ true := fun h => d 0 ⟨h0, h⟩
        rw [if_pos h0, if_neg hb0, if_pos (s1 0 h0)]; exact Nat.le_refl _
      rw [if_neg h0]
      by_cases hb0 : b.testBit 0 = true
      · rw [if_pos hb0, if_pos (s2 0 hb0)]; exact Nat.le_refl _
      rw [if_neg hb0]; exact Nat.zero_le _
    omega
theorem pop_one : ∀ k, k < 12 → pop (2 ^ k) = 1 := by decide +kernel
theorem pop_mono {n a c : Nat} (h1 : a < 2 ^ n) (h2 : c < 2 ^ n) (hn : n ≤ 12) (h : Sub a c) : pop a ≤ pop c := by
  rcases pop_sub n a c h1 h2 hn h with h3 | h3
  · omega
  rw [h3]; exact Nat.le_refl _
theorem low_bit (s k i : Nat) : (s &&& allS k).testBit i = (s.testBit i && decide (i < k)) := by rw [Nat.testBit_and, all_bit]
theorem days_pop {ps : List Sk} {s : Nat} : ∀ k, k ≤ 12 → (daysN ps s k).length ≤ pop (s &&& allS k)
  | 0, _ => Nat.zero_le _
  | k + 1, hk => by
    have ih := days_pop (ps := ps) (s := s) k (by omega)
    have hlt : ∀ m, m ≤ 12 → s &&& allS m < 2 ^ 12 := fun m hm => Nat.lt_of_le_of_lt Nat.and_le_right (allS_lt hm)
    have hp : 2 ^ k < 2 ^ 12 := Nat.pow_lt_pow_right (by omega) (by omega)
    have hsub : Sub (s &&& allS k) (s &&& allS (k + 1)) := fun i hi => by
      rw [low_bit, Bool.and_eq_true, decide_eq_true_eq] at hi
      rw [low_bit, hi.1, decide_eq_true (by omega)]; rfl
    rw [daysN]
    split
    · split
      · rename_i h
        have h2 := pop_two 12 (s &&& allS k) (2 ^ k) (s &&& allS (k + 1)) (hlt k (by omega)) hp (hlt _ hk) (Nat.le_refl _) hsub (fun i hi => by
          rw [Nat.testBit_two_pow, decide_eq_true_eq] at hi
          subst hi
          rw [low_bit, h, decide_eq_true (by omega)]; rfl) (fun i hi => by
          rw [low_bit, Nat.testBit_two_pow, Bool.and_eq_true, decide_eq_true_eq, decide_eq_true_eq] at hi
          omega)
        rw [pop_one k (by omega)] at h2
        rw [List.length_append, List.length_cons, List.length_nil]
        omega
      exact Nat.le_trans ih (pop_mono (hlt k (by omega)) (hlt _ hk) (Nat.le_refl _) hsub)
    exact Nat.le_trans ih (pop_mono (hlt k (by omega)) (hlt _ hk) (Nat.le_refl _) hsub)
theorem serv_pop {f : Fd} (hv : f.valid = true) {z : Nat} (hz : z < 4096) (h : servQ f z = true) : f.tm ≤ (pop z : Nat) := by
  have hn := valid_num hv
  rw [servQ, grd_most (by omega), decide_eq_true_eq] at h
  obtain ⟨t, h1, h2, h3⟩ := most_has f.gp (daysN f.ps z f.ps.length) [] List.Pairwise.nil
  have h4 := h1.length_le
  have h5 := days_pop (ps := f.ps) (s := z) f.ps.length (by omega)
  have h6 := pop_mono (n := 12) (show z &&& allS f.ps.length < 2 ^ 12 from Nat.lt_of_le_of_lt Nat.and_le_left hz) hz (Nat.le_refl _) (and_sub z _)
  rw [List.length_nil] at h3
  omega
theorem fit_pop {K : Pl → Nat} (hK : ∀ e, K e < 4096) {w : Nat} (hw : w < 4096) {c : Nat} : ∀ (t : List Pl) (s : Nat), s < 4096 → Fit K t s → (∀ e ∈ t, c ≤ pop (K e &&& w)) → c * t.length ≤ pop (s &&& w)
  | [], s, _, _, _ => by rw [List.length_nil, Nat.mul_zero]; exact Nat.zero_le _
  | p :: t, s, hs, hf, h => by
    obtain ⟨f1, f2⟩ := (fit_cons hK hs).1 hf
    have hle := offN_le s (K p)
    have ih := fit_pop hK hw t _ (by omega) f2 fun e he => h e (List.mem_cons_of_mem _ he)
    have hlt : ∀ x, x &&& w < 2 ^ 12 := fun x => Nat.lt_of_le_of_lt Nat.and_le_right hw
    have h1 := h p List.mem_cons_self
    have h2 := pop_two 12 (K p &&& w) (offN s (K p) &&& w) (s &&& w) (hlt _) (hlt _) (hlt _) (Nat.le_refl _) (fun i hi => by
      rw [Nat.testBit_and, Bool.and_eq_true] at hi
      rw [Nat.testBit_and, f1 i hi.1, hi.2]; rfl) (fun i hi => by
      rw [Nat.testBit_and, offN_bit hs (hK p), Bool.and_eq_true, Bool.and_eq_true] at hi
      rw [Nat.testBit_and, hi.1.1, hi.2]; rfl) (fun i hi => by
      rw [Nat.testBit_and, Nat.testBit_and, offN_bit hs (hK p), Bool.and_eq_true, Bool.and_eq_true, Bool.and_eq_true] at hi
      rw [hi.1.1] at hi; simp at hi)
    rw [List.length_cons, Nat.mul_add, Nat.mul_one]
    omega
/-- All places of the choice are apart, they are in order, and there is one. -/
theorem far_few {f : Fd} (hv : f.valid = true) {w : Nat} (hw : w < 2 ^ f.ps.length) (hl : listQ f w = true) : f.tm * (far (atE f) (plsL f) (allS f.ps.length)).length ≤ (pop w : Nat) := by
  have hn := valid_num hv
  have hp : 2 ^ f.ps.length ≤ 2 ^ 12 := Nat.pow_le_pow_right (by omega) (by omega)
  have ha := allS_lt (n := f.ps.length) (by omega)
  have h1 := fit_pop (K := atE f) (atE_lt hv) (show w < 4096 by omega) (c := f.tm.toNat) _ _ ha (far_fit (atE_lt hv) (plsL f) _ ha) fun e he => by
    have h2 := List.all_eq_true.1 hl e ((far_sub _ _).subset he)
    have h3 := serv_pop hv (show atN f e.1 e.2 &&& w < 4096 from Nat.lt_of_le_of_lt Nat.and_le_right (by omega)) h2
    have : atE f e = atN f e.1 e.2 := rfl
    rw [this]
    omega
  have h2 := pop_mono (n := 12) (show allS f.ps.length &&& w < 2 ^ 12 from Nat.lt_of_le_of_lt Nat.and_le_right (by omega)) (show w < 2 ^ 12 by omega) (Nat.le_refl _) (and_sub2 _ w)
  have h3 : ((f.tm.toNat * (far (atE f) (plsL f) (allS f.ps.length)).length : Nat) : Int) = f.tm * (far (atE f) (plsL f) (allS f.ps.length)).length := by
    rw [Int.natCast_mul, Int.toNat_of_nonneg (by omega)]
  omega
theorem at_all (f : Fd) (e : Pl) : Sub (atE f e) (allS f.ps.length) := all_sub (setN_lt2 _ _)
theorem far_some {f : Fd} (hv : f.valid = true) {w : Nat} (hl : listQ f w = true) : 1 ≤ (far (atE f) (plsL f) (allS f.ps.length)).length := by
  have hn := valid_num hv
  refine far_all (atE_lt hv) (plsL f) _ [(f.el, f.nl)] (allS_lt (by omega)) (atE_pos hv hl) (fun e he => ?_) ⟨fun e _ => at_all f e, List.pairwise_singleton _ _⟩
  rw [List.mem_singleton] at he
  subst he
  exact mem_pls (by omega) (by omega)
end Go.Proofs.Ytabeeaiilanmjaa

/- Other places, in order: one is taken if it is apart from those that are, and a number says so. -/
namespace Go.Proofs.Ytabeeaiilanmjaa
open Go.Gh
set_option maxRecDepth 100000
def skQ (bs : List Int) (t : Nat) : Bool := match bs[t % bs.length]? with | some b => decide (b.tmod 3 = 0) | none => false
def ownK (f : Fd) (bs : List Int) : Nat → List Pl
  | 0 => []
  | k + 1 => match (plsL f)[k]? with
    | some e => if skQ bs (k + 1) = true then ownK f bs k else if (ownK f bs k).any (fun q => togQ f e q) = true then ownK f bs k else ownK f bs k ++ [e]
    | none => ownK f bs k
theorem ownK_sub (f : Fd) (bs : List Int) : ∀ k, (ownK f bs k).Sublist ((plsL f).take k)
  | 0 => List.Sublist.refl _
  | k + 1 => by
    have ih := ownK_sub f bs k
    rw [ownK, List.take_add_one]
    cases he : (plsL f)[k]? with
    | none => simp only [Option.toList_none, List.append_nil]; exact ih
    | some e =>
      simp only [Option.toList_some]
      split
      · exact ih.trans (List.sublist_append_left _ _)
      split
      · exact ih.trans (List.sublist_append_left _ _)
      exact ih.append (List.Sublist.refl _)
theorem ownK_dis (f : Fd) (bs : List Int) : ∀ k, (ownK f bs k).Pairwise fun a b => Dis (atE f a) (atE f b)
  | 0 => List.Pairwise.nil
  | k + 1 => by
    have ih := ownK_dis f bs k
    rw [ownK]
    split
    · split
      · exact ih
      split
      · exact ih
      rename_i e _ _ h
      refine List.pairwise_append.2 ⟨ih, List.pairwise_singleton _ _, fun a ha b hb => ?_⟩
      rw [List.mem_singleton] at hb; subst hb
      refine (tog_dis.1 ?_).symm
      cases hq : togQ f b a with
      | false => rfl
      | true => exact absurd (List.any_eq_true.2 ⟨a, ha, hq⟩) h
    exact ih
/-- What is told of the places that are apart. -/
structure Apl (f : Fd) (w : Nat) (l : List Pl) : Prop where
  inn : ∀ e ∈ l, (f.el ≤ e.1 ∧ e.1 ≤ f.eh) ∧ f.nl ≤ e.2 ∧ e.2 ≤ f.nh
  ord : l.Pairwise bef
  dis : l.Pairwise fun a b => Dis (atE f a) (atE f b)
  few : f.tm * l.length ≤ (pop w : Nat)
  one : 1 ≤ l.length
  len : l.length ≤ 1089
  own : ∀ bs, (ownK f bs (plsL f).length).length ≤ l.length ∧ ((ownK f bs (plsL f).length).length = l.length → Lex l (ownK f bs (plsL f).length))
theorem apl_ok {f : Fd} (hv : f.valid = true) {w : Nat} (hw : w < 2 ^ f.ps.length) (hl : listQ f w = true) : Apl f w (apL f (allS f.ps.length)) := by
  have hn := valid_num hv
  have ha := allS_lt (n := f.ps.length) (by omega)
  rw [ap_is hv ha hl]
  have hs := far_sub (K := atE f) (plsL f) (allS f.ps.length)
  refine ⟨fun e he => pls_mem (hs.subset he), (pls_pair f).sublist hs, (far_fit (atE_lt hv) _ _ ha).dis, far_few hv hw hl, far_some hv hl, ?_, fun bs => ?_⟩
  · have := hs.length_le
    have := pls_len hv
    omega
  have h1 := ownK_sub f bs (plsL f).length
  rw [List.take_length] at h1
  exact far_best (atE_lt hv) _ _ _ ha (pls_pair f) h1 ⟨fun e _ => at_all f e, ownK_dis f bs _⟩
def befB (a b : Pl) : Bool := decide (a.1 < b.1) || (decide (a.1 = b.1) && decide (a.2 < b.2))
theorem befB_iff {a b : Pl} : befB a b = true ↔ bef a b := by
  simp only [befB, bef, Bool.or_eq_true, Bool.and_eq_true, decide_eq_true_eq]
theorem Apl.bef {f : Fd} {w : Nat} {l : List Pl} (h : Apl f w l) {i : Nat} {a b : Pl} (hb : l[i]? = some a) (ha : l[i + 1]? = some b) : befB a b = true := by
  obtain ⟨h1, e1⟩ := List.getElem?_eq_some_iff.1 ha
  obtain ⟨h2, e2⟩ := List.getElem?_eq_some_iff.1 hb
  have := List.pairwise_iff_getElem.1 h.ord i (i + 1) h2 h1 (by omega)
  rw [e1, e2] at this
  exact befB_iff.2 this
theorem lp_size (l : List Pl) : ∀ x ∈ l.map (fun e : Int × Int => P.agg [.int .i64 e.1, .int .i64 e.2]), x.size = 2 := fun x hx => by
  obtain ⟨e, _, rfl⟩ := List.mem_map.1 hx; rfl
theorem lpt_size (l : List Pl) (i : Nat) : ∀ x ∈ (l.map (fun e : Int × Int => P.agg [.int .i64 e.1, .int .i64 e.2])).take i, x.size = 2 := fun x hx => lp_size l x (List.mem_of_mem_take hx)
end Go.Proofs.Ytabeeaiilanmjaa

/- The document's ways to the shortest list, to what is needed, and to the places that are apart. -/
namespace Go.Proofs.Ytabeeaiilanmjaa
open Go.Gh
set_option maxRecDepth 100000
/-- The shortest list, looked for by number. -/
def bstR (f : Fd) : Nat → Nat
  | 0 => allS f.ps.length
  | k + 1 => if pop k < pop (bstR f k) ∧ listQ f k = true then k else bstR f k
/-! The longest list of places that are apart, looked for place by place. -/
def frS (K : Pl → Nat) (s : Nat) (b : List Pl) : Nat := b.foldl (fun s q => offN s (K q)) s
def freeB (f : Fd) (b : List Pl) (p : Pl) : Bool := b.all fun q => !togQ f q p
def lpR (f : Fd) : List Pl → List Pl → List Pl → List Pl
  | _, best, [] => best
  | b, best, p :: L => lpR f b (if freeB f b p = true then (if best.length < (lpR f (b ++ [p]) (b ++ [p]) L).length then lpR f (b ++ [p]) (b ++ [p]) L else best) else best) L
end Go.Proofs.Ytabeeaiilanmjaa

/- The document: the shortest list, how many are as short, what is needed; all places, and those that are apart. -/
namespace Go.Proofs.Ytabeeaiilanmjaa
open Go.Gh
set_option maxRecDepth 100000
set_option maxHeartbeats 4000000
structure kWf1 (c : Prop) : Prop where
  h : c := by (first | exact True.intro | omega | (simp only [inI]; omega) | (simp [P.size, pS, all_int, allOne_p, goods_p, allOne, goods, good, G.one, P.one, P.cells] <;> first | omega | assumption | simp_all))
structure kWf2 (c : Prop) : Prop where
  h : c := by (first | exact True.intro | omega | ((repeat' apply And.intro) <;> first | exact True.intro | omega | exact lp_size _ | exact lpt_size _ _ | (simp; done) | (simp; omega)) | (simp only [inI]; omega) | (simp [P.size, pS, all_int, allOne_p, goods_p, allOne, goods, good, G.one, P.one, P.cells] <;> first | omega | assumption | simp_all))
end Go.Proofs.Ytabeeaiilanmjaa

/- The program: what Apart returns is an array of its own. -/
namespace Go.Proofs.Ytabeeaiilanmjaa
open Go.Gh
set_option maxRecDepth 100000
set_option maxHeartbeats 4000000
structure kVm1 (c : Prop) : Prop where
  h : c := by (first | exact True.intro | omega | ((repeat' apply And.intro) <;> first | exact True.intro | omega | exact lp_size _ | exact lpt_size _ _ | (simp; done) | (simp; omega)) | (simp only [inI]; omega) | (simp [P.size, pS, all_int, allOne_p, goods_p, allOne, goods, good, G.one, P.one, P.cells] <;> first | omega | assumption | simp_all))
structure kVm2 (c : Prop) : Prop where
  h : c := by (first | exact True.intro | omega | (simp only [inI]; omega) | (simp [P.size, pS, all_int, allOne_p, goods_p, allOne, goods, good, G.one, P.one, P.cells] <;> first | omega | assumption | simp_all))
theorem s_clone_o {E : Env Try.prog} {A : E.α} (l : List (Int × Int)) (hl : l.length ≤ 100000) (h1 : 1 ≤ l.length) : Gh.Spec E 82 [.p (.list (l.map fun e : Int × Int => P.agg [.int .i64 e.1, .int .i64 e.2]))] (mkHp []) A (fun y => y = .ok (.own 150 l.length) (mkHp [(150, .arr 51 2 (l.map fun e : Int × Int => P.agg [.int .i64 e.1, .int .i64 e.2]) false)]) A) := by
  refine spec_of Try.func82 (rfl : Try.f82.body = some _) (Nat.le_of_ble_eq_true rfl) (fun id h => ?_) (fun j id h => ?_) ?_
  · exact wf1x h
  · exact wf2x h
  intro C hN hL
  replace hN : C.N = 8 := hN
  simp only [Gh.num, List.map_cons, List.map_nil, Nat.reduceAdd]
  repeat refine gwp_seq ?_
  refine gwp_region ?_
  refine v0 (k := ?_)
  refine nil0 ?_
  refine cl [0] (k := ?_)
  repeat refine gwp_seq ?_
  refine gwp_region ?_
  refine v0 (k := ?_)
  refine nq0 (k := fun bq hq => ?_)
  refine rb 4 false (h := by ((cases bq with | false => rfl | true => (have he := hq rfl; simp at he; rw [he] at h1; simp at h1)))) (k := ?_)
  refine nil0 ?_
  repeat refine gwp_seq ?_
  refine cF (k := ?_)
  repeat refine gwp_seq ?_
  refine gwp_skip ?_
  refine cl [0] (k := ?_)
  repeat refine gwp_seq ?_
  refine gwp_region ?_
  refine n1 150 true (hc := kVm1.h {}) (k := ?_)
  refine v0 (k := ?_)
  refine n1 170 true (hc := kVm1.h {}) (k := ?_)
  refine v0 (k := ?_)
  refine nil0 ?_
  repeat refine gwp_seq ?_
  refine gwp_ret ?_
  repeat (first | refine gthen_ret ?_ | refine gblock_ret ?_ | refine gnoGoto_ret ?_)
  refine fin_ret ?_
  refine fh [150] (hR := ?_)
  simp
theorem s_popall_o {E : Env Try.prog} {A : E.α} (zs : List (Int × Int)) (hl : zs.length ≤ 100000) (h1 : 1 ≤ zs.length) : Gh.Spec E 60 [.ref 0 0] (mkHp [(0, .cells [.own 1 zs.length] 0), (1, .arr 51 2 (zs.map fun e : Int × Int => P.agg [.int .i64 e.1, .int .i64 e.2]) true)]) A (fun y => y = .ok (.own 150 zs.length) (mkHp [(0, .cells [.own 1 zs.length] 0), (1, .arr 51 2 (zs.map fun e : Int × Int => P.agg [.int .i64 e.1, .int .i64 e.2]) true), (150, .arr 51 2 (zs.map fun e : Int × Int => P.agg [.int .i64 e.1, .int .i64 e.2]) false)]) A) := by
  refine spec_of Try.func60 (rfl : Try.f60.body = some _) (Nat.le_of_ble_eq_true rfl) (fun id h => ?_) (fun j id h => ?_) ?_
  · exact wf1x h
  · exact wf2x h
  intro C hN hL
  replace hN : C.N = 8 := hN
  simp only [Gh.num, List.map_cons, List.map_nil, Nat.reduceAdd]
  repeat refine gwp_seq ?_
  refine gwp_region ?_
  refine v0 (k := ?_)
  refine nil0 ?_
  refine cl [0] (k := ?_)
  repeat refine gwp_seq ?_
  refine gwp_region ?_
  refine v0 (k := ?_)
  refine v0 (k := ?_)
  refine v0 (k := ?_)
  refine v0 (k := ?_)
  refine oc0 [(150, 150)] [1] [1] none (spec := s_clone_o zs hl h1) (hent := ent82) (k := ?_)
  refine v0 (k := ?_)
  refine nil0 ?_
  repeat refine gwp_seq ?_
  refine gwp_ret ?_
  repeat (first | refine gthen_ret ?_ | refine gblock_ret ?_ | refine gnoGoto_ret ?_)
  refine fin_ret ?_
  refine fh [0, 1, 150] (hR := ?_)
  rfl
theorem p_apart_o {E : Env Try.prog} {A : E.α} (f : Fd) (hv : f.valid = true) (hq : (listQ f (usedN f f.ps.length)) = true) (h1 : 1 ≤ (apL f (allS f.ps.length)).length) : Gh.Spec E 26 [.p (.agg [.list (f.ps.map pS), .int .i64 f.el, .int .i64 f.eh, .int .i64 f.nl, .int .i64 f.nh, .int .i64 f.dl, .int .i64 f.dh, .int .i64 f.dep, .int .i64 f.tm, .int .i64 f.gp])] (mkHp []) A (fun y => y = .ok (.tuple [.own 6000 (apL f (allS f.ps.length)).length, .p (.int .i64 0)]) (mkHp [(6000, .arr 51 2 ((apL f (allS f.ps.length)).map fun e : Int × Int => P.agg [.int .i64 e.1, .int .i64 e.2]) false)]) A) := by
  refine specD_of Try.func26 (rfl : Try.f26.body = some _) (Nat.le_of_ble_eq_true rfl) (fun id h => ?_) (fun j id h => ?_) ?_
  · exact wf1x h
  · exact wf2x h
  intro C hN hL
  replace hN : C.N = 63 := hN
  simp only [Gh.num, List.map_cons, List.map_nil, Nat.reduceAdd]
  have hn := valid_num hv
  have hu := used_lt f (k := f.ps.length) (by omega)
  have hs12 := allS_lt (n := f.ps.length) (by omega)
  have hpm : MK (plM f f.ps.length) := MK.pl _ (by omega)
  have hpl := pls_len hv
  have hK := kinds_ok hv _ hq
  have hkl : (kindsL f).length ≤ 2000 := by have h1 := kindK_len f (plsL f) []; simp only [List.length_nil, Nat.zero_add] at h1; exact Nat.le_trans h1 (by omega)
  repeat refine gwp_seq ?_
  refine gwp_region ?_
  refine n1 110 false (hc := kVm2.h {}) (k := ?_)
  refine v0 (k := ?_)
  refine n1 130 false (hc := kVm2.h {}) (k := ?_)
  refine nil0 ?_
  refine cl [1, 2, 3] (k := ?_)
  repeat refine gwp_seq ?_
  refine gwp_region ?_
  refine df0 (k := ?_)
  refine nil0 ?_
  refine cl [1, 2, 3] (k := ?_)
  repeat refine gwp_seq ?_
  refine gwp_region ?_
  refine v0 (k := ?_)
  refine oc0 [(220, 5000)] [] [0] none (spec := s_open_t f hv) (hent := ent40) (hgr := by (simp only [G.ren, G.rens, rens_p, Gh.look, Nat.reduceEqDiff, reduceIte] <;> rfl)) (k := ?_)
  refine n1 140 false (hc := kVm2.h {}) (k := ?_)
  refine s1 (hc := kVm2.h {}) (k := ?_)
  refine nil0 ?_
  refine cl [2, 3, 4] (k := ?_)
  repeat refine gwp_seq ?_
  refine rd ?_
  refine d0 0 (k := ?_)
  refine doc0 1 [(0, 5000)] [] [0] none (spec := s_mkList f hv) (hent := ent51) (k := ?_)
  refine d0 2 (k := ?_)
  refine da0 3 (k := ?_)
  refine da0 4 (k := ?_)
  refine da0 5 (k := ?_)
  refine doc0 6 [] [] [0, 0, 0] none (spec := (by have := s_isList (E := E) (A := A) f hv (usedN f f.ps.length) hu; rw [hq] at this; exact this)) (hent := ent78) (k := ?_)
  refine dpc0 7 (spec := s_must_t _) (hent := ent43) (k := ?_)
  refine dz 8 [0, 1, 0, 4, 12, 28, 63, 127] (h := ?_)
  refine de 8 (h := ?_)
  refine cl [2, 3, 4] (k := ?_)
  repeat refine gwp_seq ?_
  refine gwp_region ?_
  refine v0 (k := ?_)
  refine oc0 [(0, 5000)] [] [0] none (spec := s_kinds f hv) (hent := ent56) (k := ?_)
  refine n1 340 false (hc := kVm2.h {}) (k := ?_)
  refine n1 150 false (hc := kVm2.h {}) (k := ?_)
  refine n1 160 false (hc := kVm2.h {}) (k := ?_)
  refine s1 (hc := kVm2.h {}) (k := ?_)
  refine s1 (hc := kVm2.h {}) (k := ?_)
  refine nil0 ?_
  refine cl [2, 3, 4, 5, 6] (k := ?_)
  repeat refine gwp_seq ?_
  refine gwp_region ?_
  refine n1 170 false (hc := kVm2.h {}) (k := ?_)
  refine nil0 ?_
  refine cl [2, 3, 4, 5, 6, 7] (k := ?_)
  repeat refine gwp_seq ?_
  refine gwp_region ?_
  refine v0 (k := ?_)
  refine s1 (hc := kVm2.h {}) (k := ?_)
  refine nil0 ?_
  refine cl [2, 3, 4, 7] (k := ?_)
  repeat refine gwp_seq ?_
  refine gwp_region ?_
  refine v0 (k := ?_)
  refine oc0 [] [] [4] none (spec := s_all f (by omega)) (hent := ent58) (k := ?_)
  refine n1 180 false (hc := kVm2.h {}) (k := ?_)
  refine s1 (hc := kVm2.h {}) (k := ?_)
  refine nil0 ?_
  refine cl [2, 3, 4, 7, 8] (k := ?_)
  repeat refine gwp_seq ?_
  refine gwp_region ?_
  refine n1 190 false (hc := kVm2.h {}) (k := ?_)
  refine nil0 ?_
  refine cl [2, 3, 4, 7, 8, 9] (k := ?_)
  repeat refine gwp_seq ?_
  refine gwp_region ?_
  refine v0 (k := ?_)
  refine oc0 [] [] [13] none (spec := s_places f) (hent := ent48) (k := ?_)
  refine nil0 ?_
  refine cl [2, 3, 4, 7, 8, 9, 29] (k := ?_)
  repeat refine gwp_seq ?_
  refine gwp_block ?_
  repeat refine gwp_seq ?_
  refine ad 190 0 3000 51 2 true (k := ?_)
  refine cl [3, 4, 7, 8, 9, 29] (k := ?_)
  refine rf 10000 99001 [30] (fun k (z : Ap) A1 => apI f (allS f.ps.length) k = z ∧ A1 = A) (fun z => [(130, .cells [.p (.int .i64 0)] 0), (140, .cells [.ptr [.p (.list (f.ps.map pS)), .p (.int .i64 f.el), .p (.int .i64 f.eh), .p (.int .i64 f.nl), .p (.int .i64 f.nh), .p (.int .i64 f.dl), .p (.int .i64 f.dh), .p (.int .i64 f.dep), .p (.int .i64 f.tm), .p (.int .i64 f.gp), .p (.int .u64 (usedN f f.ps.length : Nat)), .map 5000]] 0), (170, .cells [.fn (.func 57) [] [.ref 160 0, .ref 150 0, .ref 170 0]] 0), (180, .cells [.p (.int .u64 (z.s : Nat))] 0), (190, .cells [.own 3000 z.z.length] 0), (5000, .map (plM f f.ps.length)), (160, .cells [.map 340] 0), (150, .cells [.p (.list ((kindsL f).map fun s : Nat => P.int .u64 (s : Int)))] 0), (3000, .arr 51 2 (z.z.map fun e : Int × Int => P.agg [.int .i64 e.1, .int .i64 e.2]) true), (340, .map (memL z.L))]) (fun _ _ _ => False) (fun _ z => [(130, .cells [.p (.int .i64 0)] 0), (140, .cells [.ptr [.p (.list (f.ps.map pS)), .p (.int .i64 f.el), .p (.int .i64 f.eh), .p (.int .i64 f.nl), .p (.int .i64 f.nh), .p (.int .i64 f.dl), .p (.int .i64 f.dh), .p (.int .i64 f.dep), .p (.int .i64 f.tm), .p (.int .i64 f.gp), .p (.int .u64 (usedN f f.ps.length : Nat)), .map 5000]] 0), (170, .cells [.fn (.func 57) [] [.ref 160 0, .ref 150 0, .ref 170 0]] 0), (180, .cells [.p (.int .u64 (z.s : Nat))] 0), (190, .cells [.own 3000 z.z.length] 0), (5000, .map (plM f f.ps.length)), (160, .cells [.map 340] 0), (150, .cells [.p (.list ((kindsL f).map fun s : Nat => P.int .u64 (s : Int)))] 0), (3000, .arr 51 2 (z.z.map fun e : Int × Int => P.agg [.int .i64 e.1, .int .i64 e.2]) true), (340, .map (memL z.L))]) [] [.k] (it := it_places f hv) (hent := ent76) (xs := ((plsL f).map fun e => [P.agg [.int .i64 e.1, .int .i64 e.2]])) (hlen := fun x hx => by obtain ⟨w, _, rfl⟩ := List.mem_map.1 hx; rfl) (h0 := ?_) (round := fun k z A1 x hI hx lp bs C1 hN1 hL1 => ?_) (hK := fun e z A1 hK => ?_) (hI := fun z A1 hI => ?_)
  · exact ⟨⟨[], (allS f.ps.length), []⟩, ⟨rfl, rfl⟩, rfl⟩
  · obtain ⟨hz, rfl⟩ := hI
    rw [List.getElem?_map] at hx
    obtain ⟨e, he, rfl⟩ := Option.map_eq_some_iff.1 hx
    have hem := pls_mem (List.mem_of_getElem? he)
    have hat := look_at hv hem.1 hem.2
    have hlk := look_or hpm e.1 e.2
    have hko := hpm.ok e.1 e.2
    rw [hat] at hlk
    have hal := at_lt (f := f) (by omega) e.1 e.2
    obtain ⟨hs1, hM, hzl⟩ : z.s ≤ (allS f.ps.length) ∧ Mok (kindsL f) z.L ∧ z.z.length ≤ k := by rw [← hz]; exact ap_ok k
    have hkk := (List.getElem?_eq_some_iff.1 he).1
    obtain ⟨hk0, hk1⟩ := hK (atN f e.1 e.2) (kinds_mem.2 ⟨e, List.mem_of_getElem? he, rfl⟩)
    have han : bitop .andNot .u64 ((atN f e.1 e.2) : Nat) (z.s : Nat) = (offN (atN f e.1 e.2) z.s : Nat) := bitop_andNot_u64 (atN f e.1 e.2) z.s (by omega) (by omega)
    have han2 : bitop .andNot .u64 (z.s : Nat) ((atN f e.1 e.2) : Nat) = ((offN z.s (atN f e.1 e.2)) : Nat) := bitop_andNot_u64 z.s (atN f e.1 e.2) (by omega) (by omega)
    have hol := offN_le z.s (atN f e.1 e.2)
    have hb1 := best_le hK (show (offN z.s (atN f e.1 e.2)) < 4096 by omega)
    have hb2 := best_le hK (show z.s < 4096 by omega)
    replace hN1 : C1.N = 63 := hN1.trans hN
    refine (?_ : gwp C1 (some lp) _ _ (sg ((30, .p (.agg [.int .i64 e.1, .int .i64 e.2])) :: _) [(130, .cells [.p (.int .i64 0)] 0), (140, .cells [.ptr [.p (.list (f.ps.map pS)), .p (.int .i64 f.el), .p (.int .i64 f.eh), .p (.int .i64 f.nl), .p (.int .i64 f.nh), .p (.int .i64 f.dl), .p (.int .i64 f.dh), .p (.int .i64 f.dep), .p (.int .i64 f.tm), .p (.int .i64 f.gp), .p (.int .u64 (usedN f f.ps.length : Nat)), .map 5000]] 0), (170, .cells [.fn (.func 57) [] [.ref 160 0, .ref 150 0, .ref 170 0]] 0), (180, .cells [.p (.int .u64 (z.s : Nat))] 0), (190, .cells [.own 3000 z.z.length] 0), (5000, .map (plM f f.ps.length)), (160, .cells [.map 340] 0), (150, .cells [.p (.list ((kindsL f).map fun s : Nat => P.int .u64 (s : Int)))] 0), (3000, .arr 51 2 (z.z.map fun e : Int × Int => P.agg [.int .i64 e.1, .int .i64 e.2]) true), (340, .map (memL z.L))] A1 []))
    repeat refine gwp_seq ?_
    refine gwp_region ?_
    refine n1 10200 false (hc := kVm2.h {}) (k := ?_)
    refine s1 (hc := kVm2.h {}) (k := ?_)
    refine nil0 ?_
    refine ⟨rfl, fun bs2 C2 hN2 hL2 hr2 => ?_⟩
    replace hN2 : C2.N = 63 := hN2.trans hN
    refine (?_ : gwp C2 (some lp) _ _ (sg _ _ _ []))
    repeat refine gwp_seq ?_
    refine gwp_block ?_
    repeat refine gwp_seq ?_
    refine rd ?_
    refine d0 0 (k := ?_)
    refine da0 1 (k := ?_)
    refine da0 2 (k := ?_)
    refine d0 3 (k := ?_)
    refine d0 4 (k := ?_)
    refine dl 5 (hv := hlk) (hkk := hko) (k := ?_)
    refine da0 6 (k := ?_)
    refine dz 7 [0, 1, 3, 7, 0, 31, 63] (h := ?_)
    refine de 7 (h := ?_)
    refine cl [2, 3, 4, 7, 8, 9, 10, 11] (k := ?_)
    repeat refine gwp_seq ?_
    refine rd ?_
    refine d0 0 (k := ?_)
    refine d0 1 (k := ?_)
    refine d0 2 (k := ?_)
    refine d0 3 (k := ?_)
    refine d0 4 (k := ?_)
    refine db0 5 41 (k1 := fun hb1 => ?_) (k0 := fun hb1 => ?_)
    · replace hb1 := hB.h {} hb1
      try rw [eqI] at hb1
      refine dw0 5 (k := ?_)
      refine dw0 6 (k := ?_)
      refine dw0 7 (k := ?_)
      refine dw0 8 (k := ?_)
      refine docwu 9 [160, 150, 170] [(0, 160), (1, 150), (2, 170), (3, 340)] [] [0, 0, 0, 0] none (spec := s_steps (kindsL f) hK hkl 5000 (offN z.s (atN f e.1 e.2)) z.L (by omega) (by omega) hM) (hent := ent57) (j := 4) (b := true) (i' := 41) (k := ?_)
      refine dw1 10 (hc := kVm2.h {}) (k := ?_)
      refine dw0 11 (k := ?_)
      refine dw0 12 (k := ?_)
      refine docwu 13 [160, 150, 170] [(0, 160), (1, 150), (2, 170), (3, 340)] [] [0, 0, 0, 0] none (spec := s_steps (kindsL f) hK hkl 5000 z.s (memoF (kindsL f) 5000 z.L (offN z.s (atN f e.1 e.2))) (by omega) (by omega) (memo_ok _ _ _ hM)) (hent := ent57) (j := 4) (b := true) (i' := 41) (k := ?_)
      refine dw0 14 (k := ?_)
      refine d0 15 (k := ?_)
      refine dz 16 [0, 0, 3, 7, 15, 31, 31, 31, 223, 511, 1023, 31, 31, 7167, 16383, 32767] (h := ?_)
      refine de 16 (h := ?_)
      repeat refine gwp_seq ?_
      refine cB (k1 := fun hb2 => ?_) (k0 := fun hb2 => ?_)
      · replace hb2 := hB.h {} hb2
        try rw [eqI] at hb2
        repeat refine gwp_seq ?_
        refine gwp_region ?_
        refine v0 (k := ?_)
        refine v0 (k := ?_)
        refine v0 (k := ?_)
        refine v0 (k := ?_)
        refine v0 (k := ?_)
        refine oc0 [(0, 190), (1, 3000)] [] [0, 0] none (spec := s_push z.z e (by omega)) (hent := ent59) (k := ?_)
        refine nil0 ?_
        refine cl [2, 3, 4, 7, 8, 9, 11] (k := ?_)
        repeat refine gwp_seq ?_
        refine gwp_region ?_
        refine v0 (k := ?_)
        refine v0 (k := ?_)
        refine v0 (k := ?_)
        refine s1 (hc := kVm2.h {}) (k := ?_)
        refine nil0 ?_
        first
        | (refine ⟨_, ⟨z.z ++ [e], (offN z.s (atN f e.1 e.2)), (memoF (kindsL f) 5000 (memoF (kindsL f) 5000 z.L (offN z.s (atN f e.1 e.2))) z.s)⟩, lc [130, 140, 170, 180, 190, 5000, 160, 150, 3000, 340], rfl, ?_, rfl⟩
           rw [ap_next he, hz, apF, if_pos (by omega), if_pos (by omega)])
        | (refine ⟨_, ⟨z.z, z.s, (memoF (kindsL f) 5000 (memoF (kindsL f) 5000 z.L (offN z.s (atN f e.1 e.2))) z.s)⟩, lc [130, 140, 170, 180, 190, 5000, 160, 150, 3000, 340], rfl, ?_, rfl⟩
           rw [ap_next he, hz, apF, if_pos (by omega), if_neg (by omega)])
        | (refine ⟨_, z, lc [130, 140, 170, 180, 190, 5000, 160, 150, 3000, 340], rfl, ?_, rfl⟩
           rw [ap_next he, hz, apF, if_neg (by omega)])
      replace hb2 := hB.h {} hb2
      try rw [eqI] at hb2
      repeat refine gwp_seq ?_
      refine gwp_skip ?_
      first
      | (refine ⟨_, ⟨z.z ++ [e], (offN z.s (atN f e.1 e.2)), (memoF (kindsL f) 5000 (memoF (kindsL f) 5000 z.L (offN z.s (atN f e.1 e.2))) z.s)⟩, lc [130, 140, 170, 180, 190, 5000, 160, 150, 3000, 340], rfl, ?_, rfl⟩
         rw [ap_next he, hz, apF, if_pos (by omega), if_pos (by omega)])
      | (refine ⟨_, ⟨z.z, z.s, (memoF (kindsL f) 5000 (memoF (kindsL f) 5000 z.L (offN z.s (atN f e.1 e.2))) z.s)⟩, lc [130, 140, 170, 180, 190, 5000, 160, 150, 3000, 340], rfl, ?_, rfl⟩
         rw [ap_next he, hz, apF, if_pos (by omega), if_neg (by omega)])
      | (refine ⟨_, z, lc [130, 140, 170, 180, 190, 5000, 160, 150, 3000, 340], rfl, ?_, rfl⟩
         rw [ap_next he, hz, apF, if_neg (by omega)])
    replace hb1 := hB.h {} hb1
    try rw [eqI] at hb1
    refine dx0 5 (k := ?_)
    refine dx0 6 (k := ?_)
    refine dx0 7 (k := ?_)
    refine dx0 8 (k := ?_)
    refine dx0 9 (k := ?_)
    refine dx0 10 (k := ?_)
    refine dx0 11 (k := ?_)
    refine dx0 12 (k := ?_)
    refine dx0 13 (k := ?_)
    refine dx0 14 (k := ?_)
    refine d0 15 (k := ?_)
    refine dz 16 [0, 0, 3, 7, 15, 31, 31, 31, 223, 511, 1023, 31, 31, 7167, 16383, 32767] (h := ?_)
    refine de 16 (h := ?_)
    repeat refine gwp_seq ?_
    refine cF (k := ?_)
    repeat refine gwp_seq ?_
    refine gwp_skip ?_
    first
    | (refine ⟨_, ⟨z.z ++ [e], (offN z.s (atN f e.1 e.2)), (memoF (kindsL f) 5000 (memoF (kindsL f) 5000 z.L (offN z.s (atN f e.1 e.2))) z.s)⟩, lc [130, 140, 170, 180, 190, 5000, 160, 150, 3000, 340], rfl, ?_, rfl⟩
       rw [ap_next he, hz, apF, if_pos (by omega), if_pos (by omega)])
    | (refine ⟨_, ⟨z.z, z.s, (memoF (kindsL f) 5000 (memoF (kindsL f) 5000 z.L (offN z.s (atN f e.1 e.2))) z.s)⟩, lc [130, 140, 170, 180, 190, 5000, 160, 150, 3000, 340], rfl, ?_, rfl⟩
       rw [ap_next he, hz, apF, if_pos (by omega), if_neg (by omega)])
    | (refine ⟨_, z, lc [130, 140, 170, 180, 190, 5000, 160, 150, 3000, 340], rfl, ?_, rfl⟩
       rw [ap_next he, hz, apF, if_neg (by omega)])
  · exact hK.elim
  obtain ⟨hz, rfl⟩ := hI
  rw [List.length_map] at hz
  have hzl : z.z.length ≤ (plsL f).length := by rw [← hz]; exact (ap_ok _).2.2
  subst hz
  refine cl [2, 3, 9] (k := ?_)
  repeat refine gwp_seq ?_
  refine gwp_region ?_
  refine oc0 [(0, 190), (1, 3000), (150, 6000)] [] [0] none (spec := s_popall_o (apI f (allS f.ps.length) (plsL f).length).z (by omega) h1) (hent := ent60) (k := ?_)
  refine v0 (k := ?_)
  refine s1 (hc := kVm2.h {}) (k := ?_)
  refine nil0 ?_
  repeat refine gwp_seq ?_
  refine gwp_ret ?_
  repeat (first | refine gthen_ret ?_ | refine gblock_ret ?_ | refine gnoGoto_ret ?_)
  refine finD_ret ?_
  try refine om (h3 := by simp [hpIds, obIdl, G.idl, G.idls, idls_p, mkHp_cons, mkHp_nil]) (h := ?_)
  refine ocall [130] [(0, 130)] (spec := d_none 0) (hent := ent39) (h := ?_)
  refine out_nil ?_
  refine fh2 [6000] (hR := ?_)
  rfl
theorem r_places_o {E : Env Try.prog} {A : E.α} (l : List (Int × Int)) (hl : l.length ≤ 1048576) : Gh.Spec E 28 [.own 0 l.length, .p (.list (l.map fun e : Int × Int => P.agg [.int .i64 e.1, .int .i64 e.2]))] (mkHp [(0, .arr 51 2 (l.map fun e : Int × Int => P.agg [.int .i64 e.1, .int .i64 e.2]) false)]) A (fun y => y = .ok (.p (.bool true)) (mkHp [(0, .arr 51 2 (l.map fun e : Int × Int => P.agg [.int .i64 e.1, .int .i64 e.2]) false)]) A) := by
  refine spec_of Try.func28 (rfl : Try.f28.body = some _) (Nat.le_of_ble_eq_true rfl) (fun id h => ?_) (fun j id h => ?_) ?_
  · exact wf1x h
  · exact wf2x h
  intro C hN hL
  replace hN : C.N = 26 := hN
  simp only [Gh.num, List.map_cons, List.map_nil, Nat.reduceAdd]
  have hdt : ∀ (i : Decidable True), @decide True i = true := fun i => decide_eq_true trivial
  have hdf : ∀ (i : Decidable False), @decide False i = false := fun i => decide_eq_false id
  have hdv : ∀ i : Nat, i * 2 / 2 = i := fun i => Nat.mul_div_cancel i (by decide)
  have hgp : ∀ a b c e : Int, geq Try.prog 6 51 (.agg [.int .i64 a, .int .i64 b]) (.agg [.int .i64 c, .int .i64 e]) = some (decide (a = c) && (decide (b = e) && true)) := geq_pair 4
  have hbt : (true == true) = true := rfl
  have hbf : (false == false) = true := rfl
  have htf : (true == false) = false := rfl
  have hft : (false == true) = false := rfl
  repeat refine gwp_seq ?_
  refine gwp_region ?_
  refine v0 (k := ?_)
  refine nil0 ?_
  refine cl [0, 1] (k := ?_)
  repeat refine gwp_seq ?_
  refine gwp_region ?_
  refine v0 (k := ?_)
  refine v0 (k := ?_)
  refine v0 (k := ?_)
  refine v0 (k := ?_)
  refine v0 (k := ?_)
  refine rb 10 false (h := by (first | rfl | decide | simp)) (k := ?_)
  refine nil0 ?_
  repeat refine gwp_seq ?_
  refine cF (k := ?_)
  repeat refine gwp_seq ?_
  refine gwp_skip ?_
  refine cl [0, 1] (k := ?_)
  repeat refine gwp_seq ?_
  refine gwp_region ?_
  refine v0 (k := ?_)
  refine nil0 ?_
  refine cl [0, 1, 5] (k := ?_)
  repeat refine gwp_seq ?_
  refine gwp_block ?_
  repeat refine gwp_seq ?_
  refine gc_loop (fun mz σ => ∃ k : Nat, (k ≤ l.length) ∧ mz = l.length - k ∧ σ = (sg [(0, .own 0 l.length), (1, .p (.list (l.map fun e : Int × Int => P.agg [.int .i64 e.1, .int .i64 e.2]))), (5, .p (.int .i64 (k : Nat)))] [(0, .arr 51 2 (l.map fun e : Int × Int => P.agg [.int .i64 e.1, .int .i64 e.2]) false)] A [] : Sg E)) ?_ (fun mz σ hI => ?_)
  · refine lbeg [0, 1, 5] (hV := ?_)
    exact ⟨_, 0, by omega, rfl, rfl⟩
  obtain ⟨k, hk, hnn, rfl⟩ := hI
  repeat refine gwp_seq ?_
  refine gwp_region ?_
  refine v0 (k := ?_)
  refine v0 (k := ?_)
  refine v0 (k := ?_)
  refine v0 (k := ?_)
  refine nil0 ?_
  repeat refine gwp_seq ?_
  refine cB (k1 := fun hb1 => ?_) (k0 := fun hb1 => ?_)
  · replace hb1 := hB.h {} hb1
    repeat refine gwp_seq ?_
    refine gwp_skip ?_
    refine cl [0, 1, 5] (k := ?_)
    repeat refine gwp_seq ?_
    refine gwp_block ?_
    repeat refine gwp_seq ?_
    obtain ⟨e, he⟩ := getE (l := l) (k := k) (by omega)
    refine rd ?_
    refine d0 0 (k := ?_)
    refine d0 1 (k := ?_)
    refine d1 2 (hc := kVm1.h {}) (k := ?_)
    refine d0 3 (k := ?_)
    refine d0 4 (k := ?_)
    refine d0 5 (k := ?_)
    refine d1 6 (hc := kVm1.h {}) (k := ?_)
    refine d0 7 (k := ?_)
    refine d1 8 (hc := by (exact heg51)) (k := ?_)
    refine dz 9 [0, 0, 3, 7, 0, 0, 48, 112, 255] (h := ?_)
    refine de 9 (h := ?_)
    repeat refine gwp_seq ?_
    refine cB (k1 := fun hb2 => ?_) (k0 := fun hb2 => ?_)
    · replace hb2 := hB.h {} hb2
      repeat refine gwp_seq ?_
      refine gwp_region ?_
      refine v0 (k := ?_)
      refine nil0 ?_
      repeat refine gwp_seq ?_
      refine gwp_ret ?_
      repeat (first | refine gthen_ret ?_ | refine gblock_ret ?_ | refine gnoGoto_ret ?_)
      refine fin_ret ?_
      refine fk1 [0] (hR := ?_)
      rfl
    replace hb2 := hB.h {} hb2
    repeat refine gwp_seq ?_
    refine gwp_skip ?_
    refine cl [0, 1, 5] (k := ?_)
    repeat refine gwp_seq ?_
    refine gwp_region ?_
    refine v0 (k := ?_)
    refine v1 (hc := kVm1.h {}) (k := ?_)
    refine v0 (k := ?_)
    refine nil0 ?_
    refine lend [0, 1, 5] (h := ?_) (hV := ?_) (n' := l.length - (k + 1))
    · omega
    exact ⟨k + 1, by omega, rfl, rfl⟩
  replace hb1 := hB.h {} hb1
  repeat refine gwp_seq ?_
  refine gwp_exit ?_
  repeat (first | refine gthen_exit ?_ | refine gnoGoto_exit ?_ | refine gblock_here ?_ | refine gblock_out rfl ?_)
  refine cl [0] (k := ?_)
  repeat refine gwp_seq ?_
  refine gwp_region ?_
  refine v0 (k := ?_)
  refine nil0 ?_
  repeat refine gwp_seq ?_
  refine gwp_ret ?_
  repeat (first | refine gthen_ret ?_ | refine gblock_ret ?_ | refine gnoGoto_ret ?_)
  refine fin_ret ?_
  refine fk1 [0] (hR := ?_)
  rfl
theorem ent37 : Enters Try.prog 37 := Enters.mk Try.func37 (by kernel_rfl) rfl
theorem q_37 {E : Env Try.prog} {A : E.α} (n tu i : Nat) (hn : 1 ≤ n ∧ n ≤ 12) (ht : tu ≤ 255) (hi : i ≤ 12) : Gh.Spec E 37 [.p (.int .i64 (i : Nat)), .ptr [.p (.int .u8 (tu : Nat))], .ptr [.p (.int .i64 (n : Nat))]] (mkHp []) A (fun y => y = .ok (.p (.int .i64 (turnP n tu i : Nat))) (mkHp []) A) := by
  refine spec_of Try.func37 (rfl : Try.f37.body = some _) (Nat.le_of_ble_eq_true rfl) (fun id h => ?_) (fun j id h => ?_) ?_
  · exact wf1x h
  · exact wf2x h
  intro C hN hL
  replace hN : C.N = 11 := hN
  simp only [Gh.num, List.map_cons, List.map_nil, Nat.reduceAdd]
  have hm : ((i : Int) + (tu : Int)).tmod (n : Int) = ((turnP n tu i : Nat) : Int) := (Int.ofNat_tmod (i + tu) n).symm
  repeat refine gwp_seq ?_
  refine gwp_region ?_
  refine v0 (k := ?_)
  refine nil0 ?_
  refine cl [0, 1, 2] (k := ?_)
  repeat refine gwp_seq ?_
  refine gwp_region ?_
  refine v0 (k := ?_)
  refine v0 (k := ?_)
  refine v1 (hc := kVm1.h {}) (k := ?_)
  refine v1 (hc := kVm1.h {}) (k := ?_)
  refine v0 (k := ?_)
  refine v1 (hc := kVm1.h {}) (k := ?_)
  refine v0 (k := ?_)
  refine nil0 ?_
  repeat refine gwp_seq ?_
  refine gwp_ret ?_
  repeat (first | refine gthen_ret ?_ | refine gblock_ret ?_ | refine gnoGoto_ret ?_)
  refine fin_ret ?_
  refine fp (hR := ?_)
  rfl
end Go.Proofs.Ytabeeaiilanmjaa

/- Contracts of the program, case by case. -/
namespace Go.Proofs.Ytabeeaiilanmjaa
open Go.Gh
set_option maxRecDepth 100000
set_option maxHeartbeats 4000000
theorem sh_t (f : Fd) (hv : f.valid = true) (w : Nat) (hw : (setsL f).find? (listQ f) = some w) : PSpec Try.prog 20 [.agg [.list (f.ps.map pS), .int .i64 f.el, .int .i64 f.eh, .int .i64 f.nl, .int .i64 f.nh, .int .i64 f.dl, .int .i64 f.dh, .int .i64 f.dep, .int .i64 f.tm, .int .i64 f.gp]] (.ok (.tuple [.int .i64 (w : Nat), .int .i64 0])) := fun E A => p_short_t f hv w hw
theorem sh_n (f : Fd) (hv : f.valid = true) (hw : (setsL f).find? (listQ f) = none) : PSpec Try.prog 20 [.agg [.list (f.ps.map pS), .int .i64 f.el, .int .i64 f.eh, .int .i64 f.nl, .int .i64 f.nh, .int .i64 f.dl, .int .i64 f.dh, .int .i64 f.dep, .int .i64 f.tm, .int .i64 f.gp]] (.ok (.tuple [.int .i64 0, .int .i64 4])) := fun E A => p_short_n f hv hw
theorem li_t (f : Fd) (hv : f.valid = true) (w : Nat) (hw : (setsL f).find? (listQ f) = some w) : PSpec Try.prog 22 [.agg [.list (f.ps.map pS), .int .i64 f.el, .int .i64 f.eh, .int .i64 f.nl, .int .i64 f.nh, .int .i64 f.dl, .int .i64 f.dh, .int .i64 f.dep, .int .i64 f.tm, .int .i64 f.gp]] (.ok (.tuple [.int .i64 (cntA f w : Nat), .int .i64 0])) := fun E A => p_lists_t f hv w hw
theorem li_n (f : Fd) (hv : f.valid = true) (hw : (setsL f).find? (listQ f) = none) : PSpec Try.prog 22 [.agg [.list (f.ps.map pS), .int .i64 f.el, .int .i64 f.eh, .int .i64 f.nl, .int .i64 f.nh, .int .i64 f.dl, .int .i64 f.dh, .int .i64 f.dep, .int .i64 f.tm, .int .i64 f.gp]] (.ok (.tuple [.int .i64 0, .int .i64 4])) := fun E A => p_lists_n f hv hw
theorem ne_t (f : Fd) (hv : f.valid = true) (hq : (listQ f (usedN f f.ps.length)) = true) : PSpec Try.prog 24 [.agg [.list (f.ps.map pS), .int .i64 f.el, .int .i64 f.eh, .int .i64 f.nl, .int .i64 f.nh, .int .i64 f.dl, .int .i64 f.dh, .int .i64 f.dep, .int .i64 f.tm, .int .i64 f.gp]] (.ok (.tuple [.int .i64 (needN f f.ps.length : Nat), .int .i64 0])) := fun E A => p_need_t f hv hq
theorem ne_n (f : Fd) (hv : f.valid = true) (hq : (listQ f (usedN f f.ps.length)) = false) : PSpec Try.prog 24 [.agg [.list (f.ps.map pS), .int .i64 f.el, .int .i64 f.eh, .int .i64 f.nl, .int .i64 f.nh, .int .i64 f.dl, .int .i64 f.dh, .int .i64 f.dep, .int .i64 f.tm, .int .i64 f.gp]] (.ok (.tuple [.int .i64 0, .int .i64 4])) := fun E A => p_need_n f hv hq
theorem us_t (f : Fd) (hv : f.valid = true) : PSpec Try.prog 14 [.agg [.list (f.ps.map pS), .int .i64 f.el, .int .i64 f.eh, .int .i64 f.nl, .int .i64 f.nh, .int .i64 f.dl, .int .i64 f.dh, .int .i64 f.dep, .int .i64 f.tm, .int .i64 f.gp]] (.ok (.tuple [.int .i64 (usedN f f.ps.length : Nat), .int .i64 0])) := fun E A => p_useful_t f hv
theorem ap_t (f : Fd) (hv : f.valid = true) (hq : (listQ f (usedN f f.ps.length)) = true) : PSpec Try.prog 26 [.agg [.list (f.ps.map pS), .int .i64 f.el, .int .i64 f.eh, .int .i64 f.nl, .int .i64 f.nh, .int .i64 f.dl, .int .i64 f.dh, .int .i64 f.dep, .int .i64 f.tm, .int .i64 f.gp]] (.ok (.tuple [.list ((apL f (allS f.ps.length)).map fun e : Int × Int => P.agg [.int .i64 e.1, .int .i64 e.2]), .int .i64 0])) := fun E A => p_apart_t f hv hq
theorem ap_n (f : Fd) (hv : f.valid = true) (hq : (listQ f (usedN f f.ps.length)) = false) : PSpec Try.prog 26 [.agg [.list (f.ps.map pS), .int .i64 f.el, .int .i64 f.eh, .int .i64 f.nl, .int .i64 f.nh, .int .i64 f.dl, .int .i64 f.dh, .int .i64 f.dep, .int .i64 f.tm, .int .i64 f.gp]] (.ok (.tuple [.list [], .int .i64 4])) := fun E A => p_apart_n f hv hq
end Go.Proofs.Ytabeeaiilanmjaa

/- A part of an array of larger elements that nobody turns, in a cell, as a list. -/
namespace Go.Gh
open Go.RowKit
variable {Pg : Program} {E : Env Pg} {C : Cx E} {r : Option Nat} {ops : Array Oper} {Q : GE → Sg E → Prop} {l l' : List (Nat × G)} {m m' : List (Nat × Ob)} {A : E.α} {df : List GD} {σ σ0 : Sg E} {c : Code} {rest : List Oper} {cp : Prop}
theorem Le.fslCellN {i1 o1 f1 id off len sz fz : Nat} {ds cs : List G} {ps : List P} (hi : σ.h i1 = .cells ds f1) (hc : ds[o1]? = some (.fsl id off len)) (ho : σ.h id = .cells cs fz) (h1 : off + len * sz ≤ fz) (hps : (cs.drop off).take (len * sz) = (ps.flatMap P.cells).map .p) (h2 : ps.length = len) :
    Le C σ { σ with h := upd σ.h i1 (.cells (ds.set o1 (.p (.list ps))) f1) } := fun a w ⟨π, ρ, S, H⟩ => by
  have hob := H.rel.objs i1
  simp only [hi] at hob
  obtain ⟨vs, et, hw, hv, hone, hf, hn⟩ := hob
  have hnew := VRels_setcell (g' := .p (.list ps)) hv hc fun v hr => by
    simp only [VRel] at hr
    obtain ⟨cap, hv, hcap⟩ := hr
    have hr := ref_row H.rel ho h1
    rw [hps] at hr
    simp only [VRel, PRel]
    refine ⟨_, _, _, hv, h2.symm, hcap, .inr ⟨_, _, rfl, PElems.row.2 ?_⟩⟩
    refine PRow.mk fun j c hc => ?_
    obtain ⟨u, h1, h2, h3⟩ := hr.get j (.p c) (by rw [List.getElem?_map, hc]; rfl)
    exact ⟨u, h1, by simpa only [VRel] using h2, h3⟩
  have hrefl : upd ρ i1 (ρ i1) = ρ := by funext j; unfold upd; split <;> simp_all
  have T := H.rel.turn (w' := w) (π' := π) i1 (ρ i1) (.cells (ds.set o1 (.p (.list ps))) f1) (Nat.le_refl _) rfl rfl rfl (fun b _ _ => ⟨rfl, rfl⟩) (PM.le_refl _) H.rel.know (fun _ _ _ => .inl rfl) ?_ (fun b hb => ?_)
  · rw [hrefl] at T
    have hne : ∀ i, σ.h i ≠ .none → upd σ.h i1 (Ob.cells (ds.set o1 (.p (.list ps))) f1) i ≠ .none := fun i hi => by
      simp only [upd]; split
      · simp
      exact hi
    refine ⟨π, ρ, S, H.putObj T.1 T.2 (fun _ _ => .inl rfl) (fun _ _ => .inl rfl) hne fun j i hm => ?_⟩
    simp only [upd] at hm
    split at hm
    · refine hne i ?_
      simp only [Ob.men] at hm
      obtain ⟨x, hx, hxm⟩ := mens_true.1 hm
      rcases List.mem_or_eq_of_mem_set hx with hx | hx
      · exact H.wfh i1 i (by rw [hi]; exact mens_true.2 ⟨x, hx, hxm⟩)
      subst hx; simp [G.men] at hxm
    exact hne i (H.wfh j i hm)
  · rw [hrefl]
    refine ⟨vs, et, hw, hnew, fun c hc' => ?_, fun j u hj hu => hf j u hj hu, hn⟩
    rcases List.mem_or_eq_of_mem_set hc' with h | h
    · exact hone c h
    subst h; rfl
  rw [hrefl] at hb
  exact .inl (by rw [hi]; exact hb)
theorem gc_fslN (i1 o1 id off len sz : Nat) {f1 fz : Nat} {ds ds2 cs : List G} (ps : List P) (hi : mkHp m i1 = .cells ds f1) (hc : ds[o1]? = some (.fsl id off len)) (ho : mkHp m id = .cells cs fz) (h1 : off + len * sz ≤ fz) (hps : (cs.drop off).take (len * sz) = (ps.flatMap P.cells).map .p) (h2 : ps.length = len) (he : ds.set o1 (.p (.list ps)) = ds2)
    (k : gwp C r c Q (sg l ((i1, .cells ds2 f1) :: m) A df)) : gwp C r c Q (sg l m A df) := gwp_le (Le.fslCellN (σ := sg l m A df) hi hc ho h1 hps h2) (by subst he; exact k)
end Go.Gh
