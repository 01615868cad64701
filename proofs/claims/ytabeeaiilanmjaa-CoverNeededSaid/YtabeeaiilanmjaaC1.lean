/- The statement CoverNeeded: the call returns true for every input, and its arguments read as before; no condition. -/
import Derived.Test.YtabeeaiilanmjaaB4
set_option linter.unusedVariables false
set_option linter.unusedSimpArgs false
/- More plates serve no less: sets that are lists, and larger ones. -/
namespace Go.Proofs.Ytabeeaiilanmjaa
open Go.Gh
set_option maxRecDepth 100000
/-- One set lies in another. -/
def Sub (s t : Nat) : Prop := ∀ i, s.testBit i = true → t.testBit i = true
theorem Sub.refl (s : Nat) : Sub s s := fun _ h => h
theorem Sub.trans {s t u : Nat} (h : Sub s t) (k : Sub t u) : Sub s u := fun i hi => k i (h i hi)
theorem and_sub (s t : Nat) : Sub (s &&& t) s := fun i h => by rw [Nat.testBit_and, Bool.and_eq_true] at h; exact h.1
theorem and_sub2 (s t : Nat) : Sub (s &&& t) t := fun i h => by rw [Nat.testBit_and, Bool.and_eq_true] at h; exact h.2
theorem Sub.and {s t : Nat} (h : Sub s t) (a : Nat) : Sub (a &&& s) (a &&& t) := fun i hi => by
  rw [Nat.testBit_and, Bool.and_eq_true] at hi ⊢
  exact ⟨hi.1, h i hi.2⟩
theorem days_sub {ps : List Sk} {s t : Nat} (h : Sub s t) : ∀ k, (daysN ps s k).Sublist (daysN ps t k)
  | 0 => List.Sublist.refl _
  | k + 1 => by
    have ih := days_sub (ps := ps) h k
    rw [daysN, daysN]
    split
    · by_cases hs : s.testBit k = true
      · rw [if_pos hs, if_pos (h k hs)]
        exact ih.append (List.Sublist.refl _)
      · rw [if_neg hs]
        split
        · exact ih.trans (List.sublist_append_left _ _)
        · exact ih
    · exact ih
/-- From a longer list no fewer can be chosen. -/
theorem most_sub {gap : Int} {l m : List Int} (h : l.Sublist m) : mostR gap l [] ≤ mostR gap m [] := by
  obtain ⟨t, h1, h2, h3⟩ := most_has gap l [] List.Pairwise.nil
  have := most_max gap m [] t (h1.trans h) h2
  rw [h3]
  exact this
theorem serv_sub {f : Fd} (hv : f.valid = true) {s t : Nat} (h : Sub s t) (hs : servQ f s = true) : servQ f t = true := by
  have hn := valid_num hv
  rw [servQ, grd_most (by omega), decide_eq_true_eq] at hs ⊢
  have := most_sub (gap := f.gp) (days_sub (ps := f.ps) h f.ps.length)
  omega
theorem list_sub {f : Fd} (hv : f.valid = true) {s t : Nat} (h : Sub s t) (hs : listQ f s = true) : listQ f t = true := by
  rw [listQ, List.all_eq_true] at hs ⊢
  exact fun p hp => serv_sub hv (h.and _) (hs p hp)
theorem at_used (f : Fd) (x y : Int) : Sub (atN f x y) (usedN f f.ps.length) := fun i h => by
  rw [atN, atK, setN_bit, Bool.and_eq_true, decide_eq_true_eq] at h
  rw [usedN, setN_bit, Bool.and_eq_true, decide_eq_true_eq]
  refine ⟨h.1, ?_⟩
  obtain ⟨h1, h2⟩ := h
  rw [plQ] at h2 ⊢
  split at h2
  · rename_i p hp
    rw [Bool.and_eq_true] at h2
    exact h2.1
  · cases h2
theorem used_lt2 (f : Fd) : usedN f f.ps.length < 2 ^ f.ps.length := setN_lt2 _ _
theorem and_and {a u s : Nat} (h : Sub a u) : a &&& (s &&& u) = a &&& s := Nat.eq_of_testBit_eq fun i => by
  rw [Nat.testBit_and, Nat.testBit_and, Nat.testBit_and]
  cases ha : a.testBit i with
  | false => rfl
  | true => rw [h i ha, Bool.and_true]
/-- Plates of no use make no list. -/
theorem list_used (f : Fd) (s : Nat) : listQ f (s &&& usedN f f.ps.length) = listQ f s := by
  rw [listQ, listQ]
  congr 1
  funext p
  rw [and_and (at_used f p.1 p.2)]
theorem all_bit {n i : Nat} : (allS n).testBit i = decide (i < n) := by rw [allS, Nat.testBit_two_pow_sub_one]
theorem all_sub {s n : Nat} (h : s < 2 ^ n) : Sub s (allS n) := fun i hi => by
  rw [all_bit, decide_eq_true_eq]
  apply Nat.lt_of_not_le
  intro h2
  rw [lt_bit h h2] at hi; cases hi
theorem list_all {f : Fd} : listQ f (allS f.ps.length) = listQ f (usedN f f.ps.length) := by
  rw [← list_used f (allS f.ps.length)]
  congr 1
  refine Nat.eq_of_testBit_eq fun i => ?_
  rw [Nat.testBit_and]
  cases h : (usedN f f.ps.length).testBit i with
  | false => rw [Bool.and_false]
  | true => rw [all_sub (used_lt2 f) i h]; rfl
theorem list_mis (f : Fd) (s : Nat) : (misL f s = []) ↔ listQ f s = true := by
  rw [misL, List.filter_eq_nil_iff, listQ, List.all_eq_true]
  constructor
  · intro h p hp
    have := h p hp
    rw [misQ] at this
    simpa using this
  · intro h p hp
    rw [misQ, h p hp]
    simp
end Go.Proofs.Ytabeeaiilanmjaa

/- The shortest list: the first one by size, then by number; how many are as short; what is needed. -/
namespace Go.Proofs.Ytabeeaiilanmjaa
open Go.Gh
set_option maxRecDepth 100000
theorem mod_bit (n : Nat) : n % 2 = if n.testBit 0 = true then 1 else 0 := by
  rw [Nat.testBit_zero]
  by_cases h : n % 2 = 1
  · rw [h]; rfl
  · rw [if_neg (by simpa using h)]; omega
theorem half_bit (n i : Nat) : (n / 2).testBit i = n.testBit (i + 1) := by rw [Nat.testBit_succ]
theorem Sub.half {s t : Nat} (h : Sub s t) : Sub (s / 2) (t / 2) := fun i hi => by rw [half_bit] at hi ⊢; exact h _ hi
/-- A set that lies in another one is no larger, and smaller unless it is the same. -/
theorem pop_sub : ∀ (n s t : Nat), s < 2 ^ n → t < 2 ^ n → n ≤ 12 → Sub s t → pop s < pop t ∨ s = t
  | 0, s, t, h1, h2, _, _ => .inr (by omega)
  | n + 1, s, t, h1, h2, hn, h => by
    have hp : 2 ^ (n + 1) ≤ 2 ^ 12 := Nat.pow_le_pow_right (by omega) hn
    have e1 := pop_half (m := s) (by omega)
    have e2 := pop_half (m := t) (by omega)
    rw [Nat.pow_succ] at h1 h2
    have ih := pop_sub n (s / 2) (t / 2) (by omega) (by omega) (by omega) h.half
    have hb : s % 2 ≤ t % 2 := by
      rw [mod_bit, mod_bit]
      by_cases h0 : s.testBit 0 = true
      · rw [if_pos h0, if_pos (h 0 h0)]; exact Nat.le_refl _
      · rw [if_neg h0]; exact Nat.zero_le _
    rcases ih with ih | ih
    · left; omega
    · rw [ih] at e1
      by_cases hb2 : s % 2 = t % 2
      · right; omega
      · left; omega
theorem sub_of {s u : Nat} (hs : s < 2 ^ 62) (hu : u < 2 ^ 62) : s &&& (2 ^ 64 - 1 - u) = 0 ↔ Sub s u := by
  constructor
  · intro h i hi
    have h2 := congrArg (Nat.testBit · i) h
    simp only [Nat.testBit_and, Nat.zero_testBit, hi, Bool.true_and] at h2
    rw [show 2 ^ 64 - 1 - u = 2 ^ 64 - (u + 1) by omega, Nat.testBit_two_pow_sub_succ (by omega)] at h2
    have hi62 : i < 62 := Nat.lt_of_not_le fun h3 => by rw [lt_bit hs h3] at hi; cases hi
    rw [decide_eq_true (show i < 64 by omega)] at h2
    simpa using h2
  · intro h
    exact Gh.sub_zero hs hu h
def Bef2 (a b : Nat) : Prop := pop a < pop b ∨ (pop a = pop b ∧ a < b)
theorem ok_pop {u z s : Nat} (h : okS u z s = true) : pop s = z := by
  rw [okS, Bool.and_eq_true, decide_eq_true_eq, decide_eq_true_eq] at h; exact h.2
theorem sz_pair (u z : Nat) : ∀ s, (szL u z s).Pairwise Bef2
  | 0 => List.Pairwise.nil
  | s + 1 => by
    have ih := sz_pair u z s
    rw [szL]
    split
    · rename_i h
      refine List.pairwise_append.2 ⟨ih, List.pairwise_singleton _ _, fun a ha b hb => ?_⟩
      rw [List.mem_singleton] at hb; subst hb
      have := sz_mem.1 ha
      exact .inr ⟨by rw [ok_pop this.2, ok_pop h], this.1⟩
    · exact ih
theorem set_pair (u N : Nat) : ∀ Z, (setL u N Z).Pairwise Bef2
  | 0 => List.Pairwise.nil
  | Z + 1 => by
    rw [setL]
    refine List.pairwise_append.2 ⟨set_pair u N Z, sz_pair u Z N, fun a ha b hb => ?_⟩
    obtain ⟨_, z, h1, h2⟩ := set_mem.1 ha
    have h3 := sz_mem.1 hb
    left
    rw [ok_pop h2, ok_pop h3.2]; exact h1
theorem sets_mem {f : Fd} (hl : f.ps.length ≤ 12) {x : Nat} : x ∈ setsL f ↔ x < 2 ^ f.ps.length ∧ Sub x (usedN f f.ps.length) := by
  have hp : 2 ^ f.ps.length ≤ 2 ^ 12 := Nat.pow_le_pow_right (by omega) hl
  have hu := used_lt2 f
  rw [setsL, set_mem]
  constructor
  · rintro ⟨h1, z, _, h2⟩
    rw [okS, Bool.and_eq_true, decide_eq_true_eq] at h2
    exact ⟨h1, (sub_of (by omega) (by omega)).1 h2.1⟩
  · rintro ⟨h1, h2⟩
    refine ⟨h1, pop x, ?_, ok_t ((sub_of (by omega) (by omega)).2 h2) rfl⟩
    rcases pop_sub _ x _ h1 hu hl h2 with h3 | h3
    · omega
    · rw [← h3]; omega
/-- What is said of the shortest list. -/
structure Sho (f : Fd) (w : Nat) : Prop where
  lt : w < 2 ^ f.ps.length
  sub : Sub w (usedN f f.ps.length)
  ls : listQ f w = true
  min : ∀ s, s < 2 ^ f.ps.length → listQ f s = true → pop w < pop s ∨ (pop w = pop s ∧ w ≤ s)
theorem and_lt2 {s u n : Nat} (h : s < 2 ^ n) : s &&& u < 2 ^ n := Nat.lt_of_le_of_lt Nat.and_le_left h
theorem sho_some {f : Fd} (hv : f.valid = true) {w : Nat} (h : (setsL f).find? (listQ f) = some w) : Sho f w := by
  have hn := valid_num hv
  have hl : f.ps.length ≤ 12 := by omega
  obtain ⟨h1, l1, l2, h2, h3⟩ := List.find?_eq_some_iff_append.1 h
  have hm := (sets_mem hl).1 (List.mem_of_find?_eq_some h)
  refine ⟨hm.1, hm.2, h1, fun s hs hq => ?_⟩
  have hu := used_lt2 f
  have hq2 : listQ f (s &&& usedN f f.ps.length) = true := by rw [list_used]; exact hq
  have hsm : s &&& usedN f f.ps.length ∈ setsL f := (sets_mem hl).2 ⟨and_lt2 hs, and_sub2 _ _⟩
  have hpw : (setsL f).Pairwise Bef2 := set_pair _ _ _
  have hle : pop w < pop (s &&& usedN f f.ps.length) ∨ (pop w = pop (s &&& usedN f f.ps.length) ∧ w ≤ s &&& usedN f f.ps.length) := by
    rw [h2] at hsm hpw
    rcases List.mem_append.1 hsm with h4 | h4
    · have := h3 _ h4
      rw [hq2] at this; cases this
    · rcases List.mem_cons.1 h4 with h4 | h4
      · rw [h4]; exact .inr ⟨rfl, Nat.le_refl _⟩
      · have := (List.pairwise_cons.1 (List.pairwise_append.1 hpw).2.1).1 _ h4
        rcases this with h5 | h5
        · exact .inl h5
        · exact .inr ⟨h5.1, by omega⟩
  rcases pop_sub _ (s &&& usedN f f.ps.length) s (and_lt2 hs) hs hl (and_sub _ _) with h5 | h5
  · left; omega
  · rwa [h5] at hle
theorem sho_none {f : Fd} (hv : f.valid = true) : (setsL f).find? (listQ f) = none ↔ listQ f (usedN f f.ps.length) = false := by
  have hn := valid_num hv
  rw [List.find?_eq_none]
  constructor
  · intro h
    have := h _ ((sets_mem (by omega)).2 ⟨used_lt2 f, Sub.refl _⟩)
    simpa using this
  · intro h x hx hq
    have := list_sub hv ((sets_mem (by omega)).1 hx).2 hq
    rw [h] at this; cases this
/-- One that is as short has just plates of use. -/
theorem same_sub {f : Fd} (hv : f.valid = true) {w : Nat} (h : Sho f w) {s : Nat} (hs : s < 2 ^ f.ps.length) (hq : listQ f s = true) (hp : pop s = pop w) : Sub s (usedN f f.ps.length) := by
  have hn := valid_num hv
  rcases pop_sub _ (s &&& usedN f f.ps.length) s (and_lt2 hs) hs (by omega) (and_sub _ _) with h5 | h5
  · have := h.min (s &&& usedN f f.ps.length) (and_lt2 hs) (by rw [list_used]; exact hq)
    omega
  · rw [← h5]; exact and_sub2 _ _
/-- How many sets up to one are as short, and lists. -/
def numR (f : Fd) (w : Nat) : Nat → Nat
  | 0 => 0
  | s + 1 => if sameQ f w s = true then numR f w s + 1 else numR f w s
theorem num_le (f : Fd) (w : Nat) : ∀ s, numR f w s ≤ s
  | 0 => Nat.le_refl _
  | s + 1 => by have := num_le f w s; rw [numR]; split <;> omega
theorem sz_count {f : Fd} (hv : f.valid = true) {w : Nat} (h : Sho f w) : ∀ s, s ≤ 2 ^ f.ps.length → (szL (usedN f f.ps.length) (pop w) s).countP (sameQ f w) = numR f w s
  | 0, _ => rfl
  | s + 1, hs => by
    have hn := valid_num hv
    have hp : 2 ^ f.ps.length ≤ 2 ^ 12 := Nat.pow_le_pow_right (by omega) (by omega)
    have hu := used_lt2 f
    have ih := sz_count hv h s (by omega)
    rw [szL, numR]
    by_cases hq : sameQ f w s = true
    · have hq2 := hq
      rw [sameQ, Bool.and_eq_true, decide_eq_true_eq] at hq2
      have hsub := same_sub hv h (show s < 2 ^ f.ps.length by omega) hq2.2 hq2.1
      rw [if_pos (ok_t ((sub_of (by omega) (by omega)).2 hsub) hq2.1), if_pos hq, List.countP_append, ih, List.countP_cons_of_pos hq]; rfl
    · rw [if_neg hq]
      split
      · rw [List.countP_append, ih, List.countP_cons_of_neg hq]; rfl
      · exact ih
theorem set_count {f : Fd} {w u N : Nat} : ∀ Z, (setL u N Z).countP (sameQ f w) = if pop w < Z then (szL u (pop w) N).countP (sameQ f w) else 0
  | 0 => rfl
  | Z + 1 => by
    rw [setL, List.countP_append, set_count Z]
    by_cases h : pop w = Z
    · rw [if_neg (by omega), if_pos (by omega), Nat.zero_add, h]
    · have : (szL u Z N).countP (sameQ f w) = 0 := by
        rw [List.countP_eq_zero]
        intro x hx hq
        rw [sameQ, Bool.and_eq_true, decide_eq_true_eq] at hq
        rw [ok_pop (sz_mem.1 hx).2] at hq
        omega
      rw [this, Nat.add_zero]
      by_cases h2 : pop w < Z
      · rw [if_pos h2, if_pos (by omega)]
      · rw [if_neg h2, if_neg (by omega)]
theorem cnt_num {f : Fd} (hv : f.valid = true) {w : Nat} (h : Sho f w) : cntA f w = numR f w (2 ^ f.ps.length) := by
  have hn := valid_num hv
  rw [cntA, cntL, List.take_length, setsL, set_count, if_pos, sz_count hv h _ (Nat.le_refl _)]
  rcases pop_sub _ w _ h.lt (used_lt2 f) (by omega) h.sub with h3 | h3
  · omega
  · rw [← h3]; omega
/-- None of its plates can be left out. -/
theorem off_sub {s k : Nat} (hs : s < 4096) (hk : k < 12) : Sub (s &&& (2 ^ 64 - 1 - 2 ^ k)) s := and_sub _ _
theorem off_bit {s k : Nat} (hk : k < 12) (i : Nat) : (s &&& (2 ^ 64 - 1 - 2 ^ k)).testBit i = (s.testBit i && !decide (k = i)) ∨ 64 ≤ i := by
  by_cases hi : 64 ≤ i
  · exact .inr hi
  · left
    have h2 : 2 ^ k < 2 ^ 64 := Nat.pow_lt_pow_right (by omega) (by omega)
    rw [Nat.testBit_and, show 2 ^ 64 - 1 - 2 ^ k = 2 ^ 64 - (2 ^ k + 1) by omega, Nat.testBit_two_pow_sub_succ h2, decide_eq_true (show i < 64 by omega), Bool.true_and, Nat.testBit_two_pow]
theorem sho_drop {f : Fd} (hv : f.valid = true) {w : Nat} (h : Sho f w) {k : Nat} (hk : k < 12) (hb : w.testBit k = true) : listQ f (w &&& (2 ^ 64 - 1 - 2 ^ k)) = false := by
  have hn := valid_num hv
  cases hq : listQ f (w &&& (2 ^ 64 - 1 - 2 ^ k)) with
  | false => rfl
  | true =>
    have h1 := h.min _ (and_lt2 h.lt) hq
    rcases pop_sub _ (w &&& (2 ^ 64 - 1 - 2 ^ k)) w (and_lt2 h.lt) h.lt (by omega) (and_sub _ _) with h2 | h2
    · omega
    · rcases off_bit (s := w) hk k with h3 | h3
      · rw [h2, hb] at h3; simp at h3
      · omega
end Go.Proofs.Ytabeeaiilanmjaa

/- What several statements use: what is missing, by cases; sets in range. -/
namespace Go.Proofs.Ytabeeaiilanmjaa
open Go.Gh
set_option maxRecDepth 100000
set_option maxHeartbeats 4000000
def misE (f : Fd) (s : Nat) : Int := match misL f s with | [] => 4 | _ :: _ => 0
theorem m_good (f : Fd) (hv : f.valid = true) (n : Nat) (h1 : inB (n : Nat) 0 (allS f.ps.length : Nat) = true) : PSpec Try.prog 18 [.agg [.list (f.ps.map pS), .int .i64 f.el, .int .i64 f.eh, .int .i64 f.nl, .int .i64 f.nh, .int .i64 f.dl, .int .i64 f.dh, .int .i64 f.dep, .int .i64 f.tm, .int .i64 f.gp], .int .i64 (n : Nat)] (.ok (.tuple [.int .i64 (hdL (misL f n)).1, .int .i64 (hdL (misL f n)).2, .int .i64 ((misL f n).length : Nat), .int .i64 (misE f n)])) := by
  rw [misE]
  rcases hm : misL f n with _ | ⟨e, l⟩
  · exact fun E A => p_miss_n f hv n h1 hm
  · have h := fun (E : Env Try.prog) (A : E.α) => p_miss_t (E := E) (A := A) f hv n h1 (by rw [hm]; simp)
    rw [hm] at h
    exact fun E A => h E A
theorem m_bad (f : Fd) (hv : f.valid = true) (s : Int) (h1 : inB s 0 (allS f.ps.length : Nat) = false) : PSpec Try.prog 18 [.agg [.list (f.ps.map pS), .int .i64 f.el, .int .i64 f.eh, .int .i64 f.nl, .int .i64 f.nh, .int .i64 f.dl, .int .i64 f.dh, .int .i64 f.dep, .int .i64 f.tm, .int .i64 f.gp], .int .i64 s] (.ok (.tuple [.int .i64 0, .int .i64 0, .int .i64 0, .int .i64 2])) := fun E A => p_miss_r f hv s h1
theorem m_none (f : Fd) (hl : f.ps.length ≤ 1048576) (hv : f.valid = false) (s : Int) : PSpec Try.prog 18 [.agg [.list (f.ps.map pS), .int .i64 f.el, .int .i64 f.eh, .int .i64 f.nl, .int .i64 f.nh, .int .i64 f.dl, .int .i64 f.dh, .int .i64 f.dep, .int .i64 f.tm, .int .i64 f.gp], .int .i64 s] (.ok (.tuple [.int .i64 0, .int .i64 0, .int .i64 0, .int .i64 1])) := fun E A => p_miss_f f hl hv s
theorem s_good (f : Fd) (hv : f.valid = true) (n : Nat) (a b : Int) (h1 : inB (n : Nat) 0 (allS f.ps.length : Nat) = true) (h2 : f.el ≤ a ∧ a ≤ f.eh) (h3 : f.nl ≤ b ∧ b ≤ f.nh) : PSpec Try.prog 16 [.agg [.list (f.ps.map pS), .int .i64 f.el, .int .i64 f.eh, .int .i64 f.nl, .int .i64 f.nh, .int .i64 f.dl, .int .i64 f.dh, .int .i64 f.dep, .int .i64 f.tm, .int .i64 f.gp], .int .i64 (n : Nat), .int .i64 a, .int .i64 b] (.ok (.tuple [.bool (servQ f (atN f a b &&& n)), .int .i64 0])) :=
  fun E A => p_served_t f hv n a b h1 (by simp only [inB, Bool.and_eq_true, decide_eq_true_eq]; exact h2) (by simp only [inB, Bool.and_eq_true, decide_eq_true_eq]; exact h3)
theorem mis_first {f : Fd} {s i j : Nat} (hi : i < wid f) (hj : j < hgt f) (h : servQ f (atN f (f.el + i) (f.nl + j) &&& s) = false) (h0 : (misC f s i j).length = 0) : (hdL (misL f s)).1 = f.el + i ∧ (hdL (misL f s)).2 = f.nl + j := by
  obtain ⟨t, ht⟩ := cur_pre f hi (show j + 1 ≤ hgt f by omega)
  have h1 : misC f s i (j + 1) = [(f.el + (i : Nat), f.nl + (j : Nat))] := by rw [misC_t h, List.eq_nil_of_length_eq_zero h0]; rfl
  have h2 : misL f s = misC f s i (j + 1) ++ t.filter (misQ f s) := by rw [misL, ht, List.filter_append]; rfl
  rw [h2, h1]
  exact ⟨rfl, rfl⟩
theorem bitop_and_i64 (x y : Nat) (hx : x < 2 ^ 62) (hy : y < 2 ^ 62) : bitop .and .i64 (x : Int) (y : Int) = ((x &&& y : Nat) : Int) := by
  have e1 : (BitVec.ofInt 64 (x : Int)).toNat = x := by rw [BitVec.toNat_ofInt]; omega
  have e2 : (BitVec.ofInt 64 (y : Int)).toNat = y := by rw [BitVec.toNat_ofInt]; omega
  have h : (x &&& y) < 2 ^ 62 := Nat.lt_of_le_of_lt Nat.and_le_left hx
  show IntKind.i64.wrap ((BitVec.ofInt 64 (x : Int) &&& BitVec.ofInt 64 (y : Int)).toNat : Int) = _
  rw [BitVec.toNat_and, e1, e2]
  exact IntWalk.i64_in ((x &&& y : Nat) : Int) (by omega)
theorem misE_list (f : Fd) (s : Nat) : (misE f s == 4) = listQ f s := by
  have h := list_mis f s
  rw [misE]
  rcases hm : misL f s with _ | ⟨e, l⟩
  · rw [(h.1 hm)]; rfl
  · cases hq : listQ f s with
    | false => rfl
    | true => rw [h.2 hq] at hm; cases hm
theorem in_all {n s : Nat} (h : s < 2 ^ n) : inB (s : Nat) 0 (allS n : Nat) = true := by
  have h2 : s ≤ allS n := by rw [allS]; omega
  simp only [inB, Bool.and_eq_true, decide_eq_true_eq]
  omega
theorem in_lt {n : Nat} : allS n < 2 ^ n := by have := Nat.two_pow_pos n; rw [allS]; omega
end Go.Proofs.Ytabeeaiilanmjaa

/- What is needed lies in every list; if it is one it is the only shortest one. -/
namespace Go.Proofs.Ytabeeaiilanmjaa
open Go.Gh
set_option maxRecDepth 100000
def butN (f : Fd) (i : Nat) : Nat := allS f.ps.length &&& (2 ^ 64 - 1 - 2 ^ i)
theorem but_lt (f : Fd) (i : Nat) : butN f i < 2 ^ f.ps.length := Nat.lt_of_le_of_lt Nat.and_le_left (by have := Nat.two_pow_pos f.ps.length; rw [allS]; omega)
theorem but_bit {f : Fd} {i j : Nat} (hi : i < 12) (hj : j < f.ps.length) (hl : f.ps.length ≤ 12) : (butN f i).testBit j = !decide (i = j) := by
  rcases off_bit (s := allS f.ps.length) hi j with h | h
  · rw [butN, h, all_bit, decide_eq_true hj, Bool.true_and]
  · omega
theorem lt_of_bit {s n i : Nat} (h : s < 2 ^ n) (hb : s.testBit i = true) : i < n := Nat.lt_of_not_le fun h2 => by rw [lt_bit h h2] at hb; cases hb
/-- A set without a plate lies in all but that one. -/
theorem but_sub {f : Fd} (hl : f.ps.length ≤ 12) {s i : Nat} (hs : s < 2 ^ f.ps.length) (hi : i < 12) (hb : s.testBit i = false) : Sub s (butN f i) := fun j hj => by
  rw [but_bit hi (lt_of_bit hs hj) hl]
  by_cases e : i = j
  · subst e; rw [hb] at hj; cases hj
  · rw [decide_eq_false e]; rfl
theorem need_bit {f : Fd} (hv : f.valid = true) (hq : listQ f (usedN f f.ps.length) = true) {i : Nat} (hi : i < f.ps.length) : (needN f f.ps.length).testBit i = !listQ f (butN f i) := by
  have hn := valid_num hv
  have hl : f.ps.length ≤ 12 := by omega
  rw [needN, setN_bit, decide_eq_true hi, Bool.true_and, needQ]
  cases hu : (usedN f f.ps.length).testBit i with
  | true =>
    rw [Bool.true_and, ← list_used f (butN f i)]
    congr 2
    refine Nat.eq_of_testBit_eq fun j => ?_
    rw [lessN, Nat.testBit_and (butN f i)]
    rcases off_bit (s := usedN f f.ps.length) (show i < 12 by omega) j with h | h
    · rw [h]
      cases hj : (usedN f f.ps.length).testBit j with
      | false => rw [Bool.false_and, Bool.and_false]
      | true => rw [but_bit (by omega) (lt_of_bit (used_lt2 f) hj) hl, Bool.true_and, Bool.and_true]
    · rw [lt_bit (used_lt2 f) (show f.ps.length ≤ j by omega), Bool.and_false]
      exact lt_bit (and_lt2 (used_lt2 f)) (show f.ps.length ≤ j by omega)
  | false =>
    rw [Bool.false_and, list_sub hv (but_sub hl (used_lt2 f) (by omega) hu) hq]; rfl
theorem need_sub {f : Fd} (hv : f.valid = true) {s : Nat} (hs : s < 2 ^ f.ps.length) (hls : listQ f s = true) : Sub (needN f f.ps.length) s := fun i hi => by
  have hn := valid_num hv
  have hl : f.ps.length ≤ 12 := by omega
  have hq : listQ f (usedN f f.ps.length) = true := list_sub hv (and_sub2 s _) (by rw [list_used]; exact hls)
  have hil := lt_of_bit (setN_lt2 (needQ f) f.ps.length) hi
  rw [need_bit hv hq hil] at hi
  cases hb : s.testBit i with
  | true => rfl
  | false =>
    rw [list_sub hv (but_sub hl hs (by omega) hb) hls] at hi
    cases hi
theorem num_one {f : Fd} {w : Nat} (hw : sameQ f w w = true) : ∀ k, (∀ s, s < k → sameQ f w s = true → s = w) → numR f w k = if w < k then 1 else 0
  | 0, _ => rfl
  | k + 1, h => by
    rw [numR, num_one hw k fun s hs => h s (by omega)]
    by_cases e : k = w
    · subst e
      rw [if_pos hw, if_neg (by omega), if_pos (by omega)]
    · have : sameQ f w k ≠ true := fun h2 => e (h k (by omega) h2)
      rw [if_neg this]
      by_cases h3 : w < k
      · rw [if_pos h3, if_pos (by omega)]
      · rw [if_neg h3, if_neg (by omega)]
theorem need_one {f : Fd} (hv : f.valid = true) {w : Nat} (h : Sho f w) (hls : listQ f (needN f f.ps.length) = true) : w = needN f f.ps.length ∧ cntA f w = 1 := by
  have hn := valid_num hv
  have hl : f.ps.length ≤ 12 := by omega
  have hlt : needN f f.ps.length < 2 ^ f.ps.length := setN_lt2 _ _
  have only : ∀ s, s < 2 ^ f.ps.length → listQ f s = true → pop s ≤ pop w → s = needN f f.ps.length := fun s hs hq hp => by
    rcases pop_sub _ _ s hlt hs hl (need_sub hv hs hq) with h1 | h1
    · have := h.min _ hlt hls
      omega
    · exact h1.symm
  have hw := only w h.lt h.ls (Nat.le_refl _)
  refine ⟨hw, ?_⟩
  rw [cnt_num hv h, num_one (by rw [sameQ, decide_eq_true rfl, h.ls]; rfl) _ fun s hs hq => ?_, if_pos h.lt]
  rw [sameQ, Bool.and_eq_true, decide_eq_true_eq] at hq
  rw [hw]
  exact only s hs hq.2 (by omega)
end Go.Proofs.Ytabeeaiilanmjaa

/- Contracts of the program, case by case. -/
namespace Go.Proofs.Ytabeeaiilanmjaa
open Go.Gh
set_option maxRecDepth 100000
set_option maxHeartbeats 4000000
theorem sh_t (f : Fd) (hv : f.valid = true) (w : Nat) (hw : (setsL f).find? (listQ f) = some w) : PSpec Try.prog 20 [.agg [.list (f.ps.map pS), .int .i64 f.el, .int .i64 f.eh, .int .i64 f.nl, .int .i64 f.nh, .int .i64 f.dl, .int .i64 f.dh, .int .i64 f.dep, .int .i64 f.tm, .int .i64 f.gp]] (.ok (.tuple [.int .i64 (w : Nat), .int .i64 0])) := fun E A => p_short_t f hv w hw
theorem sh_n (f : Fd) (hv : f.valid = true) (hw : (setsL f).find? (listQ f) = none) : PSpec Try.prog 20 [.agg [.list (f.ps.map pS), .int .i64 f.el, .int .i64 f.eh, .int .i64 f.nl, .int .i64 f.nh, .int .i64 f.dl, .int .i64 f.dh, .int .i64 f.dep, .int .i64 f.tm, .int .i64 f.gp]] (.ok (.tuple [.int .i64 0, .int .i64 4])) := fun E A => p_short_n f hv hw
theorem sh_f (f : Fd) (hl : f.ps.length ≤ 1048576) (hv : f.valid = false) : PSpec Try.prog 20 [.agg [.list (f.ps.map pS), .int .i64 f.el, .int .i64 f.eh, .int .i64 f.nl, .int .i64 f.nh, .int .i64 f.dl, .int .i64 f.dh, .int .i64 f.dep, .int .i64 f.tm, .int .i64 f.gp]] (.ok (.tuple [.int .i64 0, .int .i64 1])) := fun E A => p_short_f f hl hv
theorem li_t (f : Fd) (hv : f.valid = true) (w : Nat) (hw : (setsL f).find? (listQ f) = some w) : PSpec Try.prog 22 [.agg [.list (f.ps.map pS), .int .i64 f.el, .int .i64 f.eh, .int .i64 f.nl, .int .i64 f.nh, .int .i64 f.dl, .int .i64 f.dh, .int .i64 f.dep, .int .i64 f.tm, .int .i64 f.gp]] (.ok (.tuple [.int .i64 (cntA f w : Nat), .int .i64 0])) := fun E A => p_lists_t f hv w hw
theorem li_n (f : Fd) (hv : f.valid = true) (hw : (setsL f).find? (listQ f) = none) : PSpec Try.prog 22 [.agg [.list (f.ps.map pS), .int .i64 f.el, .int .i64 f.eh, .int .i64 f.nl, .int .i64 f.nh, .int .i64 f.dl, .int .i64 f.dh, .int .i64 f.dep, .int .i64 f.tm, .int .i64 f.gp]] (.ok (.tuple [.int .i64 0, .int .i64 4])) := fun E A => p_lists_n f hv hw
theorem li_f (f : Fd) (hl : f.ps.length ≤ 1048576) (hv : f.valid = false) : PSpec Try.prog 22 [.agg [.list (f.ps.map pS), .int .i64 f.el, .int .i64 f.eh, .int .i64 f.nl, .int .i64 f.nh, .int .i64 f.dl, .int .i64 f.dh, .int .i64 f.dep, .int .i64 f.tm, .int .i64 f.gp]] (.ok (.tuple [.int .i64 0, .int .i64 1])) := fun E A => p_lists_f f hl hv
theorem ne_t (f : Fd) (hv : f.valid = true) (hq : (listQ f (usedN f f.ps.length)) = true) : PSpec Try.prog 24 [.agg [.list (f.ps.map pS), .int .i64 f.el, .int .i64 f.eh, .int .i64 f.nl, .int .i64 f.nh, .int .i64 f.dl, .int .i64 f.dh, .int .i64 f.dep, .int .i64 f.tm, .int .i64 f.gp]] (.ok (.tuple [.int .i64 (needN f f.ps.length : Nat), .int .i64 0])) := fun E A => p_need_t f hv hq
theorem ne_n (f : Fd) (hv : f.valid = true) (hq : (listQ f (usedN f f.ps.length)) = false) : PSpec Try.prog 24 [.agg [.list (f.ps.map pS), .int .i64 f.el, .int .i64 f.eh, .int .i64 f.nl, .int .i64 f.nh, .int .i64 f.dl, .int .i64 f.dh, .int .i64 f.dep, .int .i64 f.tm, .int .i64 f.gp]] (.ok (.tuple [.int .i64 0, .int .i64 4])) := fun E A => p_need_n f hv hq
theorem ne_f (f : Fd) (hl : f.ps.length ≤ 1048576) (hv : f.valid = false) : PSpec Try.prog 24 [.agg [.list (f.ps.map pS), .int .i64 f.el, .int .i64 f.eh, .int .i64 f.nl, .int .i64 f.nh, .int .i64 f.dl, .int .i64 f.dh, .int .i64 f.dep, .int .i64 f.tm, .int .i64 f.gp]] (.ok (.tuple [.int .i64 0, .int .i64 1])) := fun E A => p_need_f f hl hv
theorem us_t (f : Fd) (hv : f.valid = true) : PSpec Try.prog 14 [.agg [.list (f.ps.map pS), .int .i64 f.el, .int .i64 f.eh, .int .i64 f.nl, .int .i64 f.nh, .int .i64 f.dl, .int .i64 f.dh, .int .i64 f.dep, .int .i64 f.tm, .int .i64 f.gp]] (.ok (.tuple [.int .i64 (usedN f f.ps.length : Nat), .int .i64 0])) := fun E A => p_useful_t f hv
theorem us_f (f : Fd) (hl : f.ps.length ≤ 1048576) (hv : f.valid = false) : PSpec Try.prog 14 [.agg [.list (f.ps.map pS), .int .i64 f.el, .int .i64 f.eh, .int .i64 f.nl, .int .i64 f.nh, .int .i64 f.dl, .int .i64 f.dh, .int .i64 f.dep, .int .i64 f.tm, .int .i64 f.gp]] (.ok (.tuple [.int .i64 0, .int .i64 1])) := fun E A => p_useful_f f hl hv
theorem ap_t (f : Fd) (hv : f.valid = true) (hq : (listQ f (usedN f f.ps.length)) = true) : PSpec Try.prog 26 [.agg [.list (f.ps.map pS), .int .i64 f.el, .int .i64 f.eh, .int .i64 f.nl, .int .i64 f.nh, .int .i64 f.dl, .int .i64 f.dh, .int .i64 f.dep, .int .i64 f.tm, .int .i64 f.gp]] (.ok (.tuple [.list ((apL f (allS f.ps.length)).map fun e : Int × Int => P.agg [.int .i64 e.1, .int .i64 e.2]), .int .i64 0])) := fun E A => p_apart_t f hv hq
theorem ap_n (f : Fd) (hv : f.valid = true) (hq : (listQ f (usedN f f.ps.length)) = false) : PSpec Try.prog 26 [.agg [.list (f.ps.map pS), .int .i64 f.el, .int .i64 f.eh, .int .i64 f.nl, .int .i64 f.nh, .int .i64 f.dl, .int .i64 f.dh, .int .i64 f.dep, .int .i64 f.tm, .int .i64 f.gp]] (.ok (.tuple [.list [], .int .i64 4])) := fun E A => p_apart_n f hv hq
theorem ap_f (f : Fd) (hl : f.ps.length ≤ 1048576) (hv : f.valid = false) : PSpec Try.prog 26 [.agg [.list (f.ps.map pS), .int .i64 f.el, .int .i64 f.eh, .int .i64 f.nl, .int .i64 f.nh, .int .i64 f.dl, .int .i64 f.dh, .int .i64 f.dep, .int .i64 f.tm, .int .i64 f.gp]] (.ok (.tuple [.list [], .int .i64 1])) := fun E A => p_apart_f f hl hv
end Go.Proofs.Ytabeeaiilanmjaa

/- The statement CoverNeeded. -/
namespace Go.Proofs.Ytabeeaiilanmjaa
open Go.Gh
set_option maxRecDepth 100000
set_option maxHeartbeats 4000000
structure kLj1 (c : Prop) : Prop where
  h : c := by (first | exact True.intro | omega | (simp only [inI]; omega) | (simp [P.size, pS, all_int, allOne_p, goods_p, allOne, goods, good, G.one, P.one, P.cells] <;> first | omega | assumption | simp_all))
theorem misE_t {f : Fd} {s : Nat} (h : listQ f s = true) : misE f s = 4 := by rw [misE, (list_mis f s).2 h]
theorem misE_f {f : Fd} {s : Nat} (h : listQ f s = false) : misE f s = 0 ∧ 1 ≤ (misL f s).length := by
  rw [misE]
  rcases hm : misL f s with _ | ⟨e, l⟩
  · rw [(list_mis f s).1 hm] at h; cases h
  · exact ⟨rfl, by simp⟩
theorem ent8 : Enters Try.prog 8 := Enters.mk Try.func8 (by kernel_rfl) rfl
theorem l_need_x (f : Fd) (hh : hvyQ f 12 300 = true) : PSpec Try.prog 8 [.agg [.list (f.ps.map pS), .int .i64 f.el, .int .i64 f.eh, .int .i64 f.nl, .int .i64 f.nh, .int .i64 f.dl, .int .i64 f.dh, .int .i64 f.dep, .int .i64 f.tm, .int .i64 f.gp]] (.ok (.bool true)) := by
  refine pspec_of Try.func8 (rfl : Try.f8.body = some _) rfl ?_
  intro E A C hN hL
  replace hN : C.N = 154 := hN
  simp only [Gh.num, List.map_cons, List.map_nil, Nat.reduceAdd]
  have hdt : ∀ (i : Decidable True), @decide True i = true := fun i => decide_eq_true trivial
  have hdf : ∀ (i : Decidable False), @decide False i = false := fun i => decide_eq_false id
  have hbt : (true == true) = true := rfl
  have hbf : (false == false) = true := rfl
  have htf : (true == false) = false := rfl
  have hft : (false == true) = false := rfl
  have hpS : ∀ p : Sk, pS p = P.agg [.int .i64 p.el, .int .i64 p.eh, .int .i64 p.nl, .int .i64 p.nh, .int .i64 p.day, .int .i64 p.dep] := fun _ => rfl
  repeat refine gwp_seq ?_
  refine gwp_region ?_
  refine n1 110 false (hc := kLj1.h {}) (k := ?_)
  refine v0 (k := ?_)
  refine nil0 ?_
  refine cl [1] (k := ?_)
  repeat refine gwp_seq ?_
  · repeat refine gwp_seq ?_
    refine gwp_region ?_
    refine v0 (k := ?_)
    refine pc0 (spec := l_heavy f 12 300) (hent := ent12) (k := ?_)
    refine rb 22 true (h := by (exact hh)) (k := ?_)
    refine v0 (k := ?_)
    refine x0 (k := ?_)
    refine x0 (k := ?_)
    refine x0 (k := ?_)
    refine v0 (k := ?_)
    refine rb 27 true (h := by (rfl)) (k := ?_)
    refine nil0 ?_
    repeat refine gwp_seq ?_
    refine cT (k := ?_)
    repeat refine gwp_seq ?_
    refine gwp_region ?_
    refine pc0 (spec := l_awake) (hent := ent13) (k := ?_)
    refine v0 (k := ?_)
    refine nil0 ?_
    repeat refine gwp_seq ?_
    refine gwp_ret ?_
    repeat (first | refine gthen_ret ?_ | refine gblock_ret ?_ | refine gnoGoto_ret ?_)
    refine fin_ret ?_
    refine fp (hR := ?_)
    rfl
theorem l_need_a (f : Fd) (hh : hvyQ f 12 300 = false) (hv : f.valid = false) : PSpec Try.prog 8 [.agg [.list (f.ps.map pS), .int .i64 f.el, .int .i64 f.eh, .int .i64 f.nl, .int .i64 f.nh, .int .i64 f.dl, .int .i64 f.dh, .int .i64 f.dep, .int .i64 f.tm, .int .i64 f.gp]] (.ok (.bool true)) := by
  refine pspec_of Try.func8 (rfl : Try.f8.body = some _) rfl ?_
  intro E A C hN hL
  replace hN : C.N = 154 := hN
  simp only [Gh.num, List.map_cons, List.map_nil, Nat.reduceAdd]
  have hdt : ∀ (i : Decidable True), @decide True i = true := fun i => decide_eq_true trivial
  have hdf : ∀ (i : Decidable False), @decide False i = false := fun i => decide_eq_false id
  have hbt : (true == true) = true := rfl
  have hbf : (false == false) = true := rfl
  have htf : (true == false) = false := rfl
  have hft : (false == true) = false := rfl
  have hpS : ∀ p : Sk, pS p = P.agg [.int .i64 p.el, .int .i64 p.eh, .int .i64 p.nl, .int .i64 p.nh, .int .i64 p.day, .int .i64 p.dep] := fun _ => rfl
  repeat refine gwp_seq ?_
  refine gwp_region ?_
  refine n1 110 false (hc := kLj1.h {}) (k := ?_)
  refine v0 (k := ?_)
  refine nil0 ?_
  refine cl [1] (k := ?_)
  repeat refine gwp_seq ?_
  have hl : f.ps.length ≤ 1048576 := by have := hvy_len hh; omega
  · repeat refine gwp_seq ?_
    refine gwp_region ?_
    refine v0 (k := ?_)
    refine pc0 (spec := l_heavy f 12 300) (hent := ent12) (k := ?_)
    refine rb 22 false (h := by (exact hh)) (k := ?_)
    refine v0 (k := ?_)
    refine w0 (k := ?_)
    refine pcw (spec := r_field f hl) (hent := ent29) (k := ?_)
    refine w0 (k := ?_)
    refine rb 26 true (h := by (rfl)) (k := ?_)
    refine v0 (k := ?_)
    refine rb 27 true (h := by (rfl)) (k := ?_)
    refine nil0 ?_
    repeat refine gwp_seq ?_
    refine cT (k := ?_)
    repeat refine gwp_seq ?_
    refine gwp_region ?_
    refine pc0 (spec := l_awake) (hent := ent13) (k := ?_)
    refine v0 (k := ?_)
    refine nil0 ?_
    repeat refine gwp_seq ?_
    refine gwp_ret ?_
    repeat (first | refine gthen_ret ?_ | refine gblock_ret ?_ | refine gnoGoto_ret ?_)
    refine fin_ret ?_
    refine fp (hR := ?_)
    rfl
theorem l_need_b (f : Fd) (hh : hvyQ f 12 300 = false) (hv : f.valid = true) (hw : (setsL f).find? (listQ f) = none) : PSpec Try.prog 8 [.agg [.list (f.ps.map pS), .int .i64 f.el, .int .i64 f.eh, .int .i64 f.nl, .int .i64 f.nh, .int .i64 f.dl, .int .i64 f.dh, .int .i64 f.dep, .int .i64 f.tm, .int .i64 f.gp]] (.ok (.bool true)) := by
  refine pspec_of Try.func8 (rfl : Try.f8.body = some _) rfl ?_
  intro E A C hN hL
  replace hN : C.N = 154 := hN
  simp only [Gh.num, List.map_cons, List.map_nil, Nat.reduceAdd]
  have hdt : ∀ (i : Decidable True), @decide True i = true := fun i => decide_eq_true trivial
  have hdf : ∀ (i : Decidable False), @decide False i = false := fun i => decide_eq_false id
  have hbt : (true == true) = true := rfl
  have hbf : (false == false) = true := rfl
  have htf : (true == false) = false := rfl
  have hft : (false == true) = false := rfl
  have hpS : ∀ p : Sk, pS p = P.agg [.int .i64 p.el, .int .i64 p.eh, .int .i64 p.nl, .int .i64 p.nh, .int .i64 p.day, .int .i64 p.dep] := fun _ => rfl
  repeat refine gwp_seq ?_
  refine gwp_region ?_
  refine n1 110 false (hc := kLj1.h {}) (k := ?_)
  refine v0 (k := ?_)
  refine nil0 ?_
  refine cl [1] (k := ?_)
  repeat refine gwp_seq ?_
  have hl : f.ps.length ≤ 1048576 := by have := hvy_len hh; omega
  have hn := valid_num hv
  have hpos := Nat.two_pow_pos f.ps.length
  have h62 : 2 ^ f.ps.length ≤ 2 ^ 12 := Nat.pow_le_pow_right (by omega) (by omega)
  have hal := allS_i f.ps.length
  have hal1 := Int.le_of_eq hal
  have hal2 := Int.le_of_eq hal.symm
  have hs12 := allS_lt (n := f.ps.length) (by omega)
  have hsh := shl_b f.ps.length (by omega)
  have hN : (needN f f.ps.length) < 2 ^ f.ps.length := setN_lt2 _ _
  have hU := used_lt2 f
  have hq := (sho_none hv).1 hw
  · repeat refine gwp_seq ?_
    refine gwp_region ?_
    refine v0 (k := ?_)
    refine pc0 (spec := l_heavy f 12 300) (hent := ent12) (k := ?_)
    refine rb 22 false (h := by (exact hh)) (k := ?_)
    refine v0 (k := ?_)
    refine w0 (k := ?_)
    refine pcw (spec := r_field f hl) (hent := ent29) (k := ?_)
    refine w0 (k := ?_)
    refine rb 26 false (h := by (rfl)) (k := ?_)
    refine v0 (k := ?_)
    refine rb 27 false (h := by (rfl)) (k := ?_)
    refine nil0 ?_
    repeat refine gwp_seq ?_
    refine cF (k := ?_)
    repeat refine gwp_seq ?_
    refine gwp_skip ?_
    refine cl [1] (k := ?_)
    repeat refine gwp_seq ?_
    refine gwp_region ?_
    refine v0 (k := ?_)
    refine pc0 (spec := ne_n f hv hq) (hent := ent24) (k := ?_)
    refine v0 (k := ?_)
    refine v0 (k := ?_)
    refine v0 (k := ?_)
    refine v0 (k := ?_)
    refine v0 (k := ?_)
    refine nil0 ?_
    refine cl [1, 3, 4] (k := ?_)
    repeat refine gwp_seq ?_
    refine gwp_region ?_
    refine v0 (k := ?_)
    refine pc0 (spec := sh_n f hv hw) (hent := ent20) (k := ?_)
    refine v0 (k := ?_)
    refine v0 (k := ?_)
    refine v0 (k := ?_)
    refine v0 (k := ?_)
    refine v0 (k := ?_)
    refine nil0 ?_
    refine cl [1, 3, 4, 5, 6] (k := ?_)
    repeat refine gwp_seq ?_
    refine gwp_region ?_
    refine v0 (k := ?_)
    refine pc0 (spec := us_t f hv) (hent := ent14) (k := ?_)
    refine v0 (k := ?_)
    refine v0 (k := ?_)
    refine v0 (k := ?_)
    refine v0 (k := ?_)
    refine v0 (k := ?_)
    refine nil0 ?_
    refine cl [1, 3, 4, 5, 6, 7, 8] (k := ?_)
    repeat refine gwp_seq ?_
    refine gwp_region ?_
    refine v0 (k := ?_)
    refine v0 (k := ?_)
    refine v0 (k := ?_)
    refine rb 46 false (h := by (first | rfl | decide)) (k := ?_)
    refine v0 (k := ?_)
    refine w0 (k := ?_)
    refine w0 (k := ?_)
    refine rb 49 false (h := by (first | rfl | decide)) (k := ?_)
    refine v0 (k := ?_)
    refine rb 50 false (h := by (rfl)) (k := ?_)
    refine nil0 ?_
    repeat refine gwp_seq ?_
    refine cF (k := ?_)
    repeat refine gwp_seq ?_
    refine gwp_skip ?_
    refine cl [1, 3, 4, 5, 7] (k := ?_)
    repeat refine gwp_seq ?_
    refine gwp_region ?_
    refine v0 (k := ?_)
    refine v0 (k := ?_)
    refine rb 52 true (h := by (first | rfl | decide)) (k := ?_)
    refine nil0 ?_
    repeat refine gwp_seq ?_
    refine cT (k := ?_)
    repeat refine gwp_seq ?_
    refine gwp_region ?_
    refine v0 (k := ?_)
    refine v0 (k := ?_)
    refine rb 54 true (h := by (first | rfl | decide | simp)) (k := ?_)
    refine v0 (k := ?_)
    refine w0 (k := ?_)
    refine w0 (k := ?_)
    refine rb 57 true (h := by (first | rfl | decide | simp)) (k := ?_)
    refine v0 (k := ?_)
    refine v0 (k := ?_)
    refine pcw (spec := l_awake) (hent := ent13) (k := ?_)
    refine rb 60 true (h := by (rfl)) (k := ?_)
    refine v0 (k := ?_)
    refine v0 (k := ?_)
    refine nil0 ?_
    repeat refine gwp_seq ?_
    refine gwp_ret ?_
    repeat (first | refine gthen_ret ?_ | refine gblock_ret ?_ | refine gnoGoto_ret ?_)
    refine fin_ret ?_
    refine fp (hR := ?_)
    rfl
theorem l_need_c (f : Fd) (hh : hvyQ f 12 300 = false) (hv : f.valid = true) (w : Nat) (hw : (setsL f).find? (listQ f) = some w) : PSpec Try.prog 8 [.agg [.list (f.ps.map pS), .int .i64 f.el, .int .i64 f.eh, .int .i64 f.nl, .int .i64 f.nh, .int .i64 f.dl, .int .i64 f.dh, .int .i64 f.dep, .int .i64 f.tm, .int .i64 f.gp]] (.ok (.bool true)) := by
  refine pspec_of Try.func8 (rfl : Try.f8.body = some _) rfl ?_
  intro E A C hN hL
  replace hN : C.N = 154 := hN
  simp only [Gh.num, List.map_cons, List.map_nil, Nat.reduceAdd]
  have hdt : ∀ (i : Decidable True), @decide True i = true := fun i => decide_eq_true trivial
  have hdf : ∀ (i : Decidable False), @decide False i = false := fun i => decide_eq_false id
  have hbt : (true == true) = true := rfl
  have hbf : (false == false) = true := rfl
  have htf : (true == false) = false := rfl
  have hft : (false == true) = false := rfl
  have hpS : ∀ p : Sk, pS p = P.agg [.int .i64 p.el, .int .i64 p.eh, .int .i64 p.nl, .int .i64 p.nh, .int .i64 p.day, .int .i64 p.dep] := fun _ => rfl
  repeat refine gwp_seq ?_
  refine gwp_region ?_
  refine n1 110 false (hc := kLj1.h {}) (k := ?_)
  refine v0 (k := ?_)
  refine nil0 ?_
  refine cl [1] (k := ?_)
  repeat refine gwp_seq ?_
  have hl : f.ps.length ≤ 1048576 := by have := hvy_len hh; omega
  have hn := valid_num hv
  have hpos := Nat.two_pow_pos f.ps.length
  have h62 : 2 ^ f.ps.length ≤ 2 ^ 12 := Nat.pow_le_pow_right (by omega) (by omega)
  have hal := allS_i f.ps.length
  have hal1 := Int.le_of_eq hal
  have hal2 := Int.le_of_eq hal.symm
  have hs12 := allS_lt (n := f.ps.length) (by omega)
  have hsh := shl_b f.ps.length (by omega)
  have hN : (needN f f.ps.length) < 2 ^ f.ps.length := setN_lt2 _ _
  have hU := used_lt2 f
  have hS := sho_some hv hw
  have hSl := hS.lt
  have hq : listQ f (usedN f f.ps.length) = true := list_sub hv hS.sub hS.ls
  have hnw : bitop .andNot .i64 ((needN f f.ps.length) : Nat) (w : Nat) = 0 := by rw [bitop_andNot_i64 _ _ (by omega) (by omega), (sub_of (by omega) (by omega)).2 (need_sub hv hS.lt hS.ls)]; rfl
  have hnu : bitop .andNot .i64 ((needN f f.ps.length) : Nat) ((usedN f f.ps.length) : Nat) = 0 := by rw [bitop_andNot_i64 _ _ (by omega) (by omega), (sub_of (by omega) (by omega)).2 (need_sub hv hU hq)]; rfl
  · repeat refine gwp_seq ?_
    refine gwp_region ?_
    refine v0 (k := ?_)
    refine pc0 (spec := l_heavy f 12 300) (hent := ent12) (k := ?_)
    refine rb 22 false (h := by (exact hh)) (k := ?_)
    refine v0 (k := ?_)
    refine w0 (k := ?_)
    refine pcw (spec := r_field f hl) (hent := ent29) (k := ?_)
    refine w0 (k := ?_)
    refine rb 26 false (h := by (rfl)) (k := ?_)
    refine v0 (k := ?_)
    refine rb 27 false (h := by (rfl)) (k := ?_)
    refine nil0 ?_
    repeat refine gwp_seq ?_
    refine cF (k := ?_)
    repeat refine gwp_seq ?_
    refine gwp_skip ?_
    refine cl [1] (k := ?_)
    repeat refine gwp_seq ?_
    refine gwp_region ?_
    refine v0 (k := ?_)
    refine pc0 (spec := ne_t f hv hq) (hent := ent24) (k := ?_)
    refine v0 (k := ?_)
    refine v0 (k := ?_)
    refine v0 (k := ?_)
    refine v0 (k := ?_)
    refine v0 (k := ?_)
    refine nil0 ?_
    refine cl [1, 3, 4] (k := ?_)
    repeat refine gwp_seq ?_
    refine gwp_region ?_
    refine v0 (k := ?_)
    refine pc0 (spec := sh_t f hv w hw) (hent := ent20) (k := ?_)
    refine v0 (k := ?_)
    refine v0 (k := ?_)
    refine v0 (k := ?_)
    refine v0 (k := ?_)
    refine v0 (k := ?_)
    refine nil0 ?_
    refine cl [1, 3, 4, 5, 6] (k := ?_)
    repeat refine gwp_seq ?_
    refine gwp_region ?_
    refine v0 (k := ?_)
    refine pc0 (spec := us_t f hv) (hent := ent14) (k := ?_)
    refine v0 (k := ?_)
    refine v0 (k := ?_)
    refine v0 (k := ?_)
    refine v0 (k := ?_)
    refine v0 (k := ?_)
    refine nil0 ?_
    refine cl [1, 3, 4, 5, 6, 7, 8] (k := ?_)
    repeat refine gwp_seq ?_
    refine gwp_region ?_
    refine v0 (k := ?_)
    refine v0 (k := ?_)
    refine v0 (k := ?_)
    refine rb 46 false (h := by (first | rfl | decide)) (k := ?_)
    refine v0 (k := ?_)
    refine w0 (k := ?_)
    refine w0 (k := ?_)
    refine rb 49 false (h := by (first | rfl | decide)) (k := ?_)
    refine v0 (k := ?_)
    refine rb 50 false (h := by (rfl)) (k := ?_)
    refine nil0 ?_
    repeat refine gwp_seq ?_
    refine cF (k := ?_)
    repeat refine gwp_seq ?_
    refine gwp_skip ?_
    refine cl [1, 3, 4, 5, 7] (k := ?_)
    repeat refine gwp_seq ?_
    refine gwp_region ?_
    refine v0 (k := ?_)
    refine v0 (k := ?_)
    refine rb 52 false (h := by (first | rfl | decide)) (k := ?_)
    refine nil0 ?_
    repeat refine gwp_seq ?_
    refine cF (k := ?_)
    repeat refine gwp_seq ?_
    refine gwp_skip ?_
    refine cl [1, 3, 5, 7] (k := ?_)
    repeat refine gwp_seq ?_
    refine fz 110 10 [.k, .k, .k, .k, .k, .k, .k, .k, .k, .k] (k := ?_)
    refine gwp_region ?_
    refine v0 (k := ?_)
    refine v0 (k := ?_)
    refine v0 (k := ?_)
    refine v1 (hc := kLj1.h {}) (k := ?_)
    refine v1 (hc := kLj1.h {}) (k := ?_)
    refine v0 (k := ?_)
    refine nil0 ?_
    refine cl [1, 3, 5, 7, 9] (k := ?_)
    repeat refine gwp_seq ?_
    refine gwp_region ?_
    refine v0 (k := ?_)
    refine v0 (k := ?_)
    refine rb 68 false (h := by (first | with_reducible rfl | exact decide_eq_false (by omega) | exact nd_f (by omega) | rfl | decide)) (k := ?_)
    refine v0 (k := ?_)
    refine w0 (k := ?_)
    refine w0 (k := ?_)
    refine w0 (k := ?_)
    refine w0 (k := ?_)
    refine rb 73 false (h := by (first | rfl | decide)) (k := ?_)
    refine v0 (k := ?_)
    refine v0 (k := ?_)
    refine w0 (k := ?_)
    refine w0 (k := ?_)
    refine w0 (k := ?_)
    refine w0 (k := ?_)
    refine rb 79 false (h := by (first | rfl | decide)) (k := ?_)
    refine v0 (k := ?_)
    refine rb 80 false (h := by (rfl)) (k := ?_)
    refine nil0 ?_
    repeat refine gwp_seq ?_
    refine cF (k := ?_)
    repeat refine gwp_seq ?_
    refine gwp_skip ?_
    refine cl [1, 3, 5, 9] (k := ?_)
    repeat refine gwp_seq ?_
    refine gwp_region ?_
    refine v0 (k := ?_)
    refine v0 (k := ?_)
    refine v0 (k := ?_)
    refine v0 (k := ?_)
    refine nil0 ?_
    refine cl [1, 3, 5, 9, 83, 84] (k := ?_)
    repeat refine gwp_seq ?_
    refine gwp_block ?_
    repeat refine gwp_seq ?_
    refine gc_loop (fun mz σ => ∃ k : Nat, (k ≤ f.ps.length) ∧ mz = f.ps.length - k ∧ σ = (sg [(1, .ref 110 0), (3, .p (.int .i64 ((needN f f.ps.length) : Nat))), (5, .p (.int .i64 (w : Nat))), (9, .p (.int .i64 (allS f.ps.length : Nat))), (83, .p (.int .i64 (f.ps.length : Nat))), (84, .p (.int .i64 (k : Nat)))] [(110, .cells [.p (.list (f.ps.map pS)), .p (.int .i64 f.el), .p (.int .i64 f.eh), .p (.int .i64 f.nl), .p (.int .i64 f.nh), .p (.int .i64 f.dl), .p (.int .i64 f.dh), .p (.int .i64 f.dep), .p (.int .i64 f.tm), .p (.int .i64 f.gp)] 10)] A [] : Sg E)) ?_ (fun mz σ hI => ?_)
    · refine lbeg [1, 3, 5, 9, 83, 84] (hV := ?_)
      exact ⟨_, 0, by omega, rfl, rfl⟩
    obtain ⟨k, hk, hnn, rfl⟩ := hI
    repeat refine gwp_seq ?_
    refine gwp_region ?_
    refine v0 (k := ?_)
    refine nil0 ?_
    repeat refine gwp_seq ?_
    refine cB (k1 := fun hb1 => ?_) (k0 := fun hb1 => ?_)
    · replace hb1 := hB.h {} hb1
      try rw [eqI] at hb1
      repeat refine gwp_seq ?_
      refine gwp_skip ?_
      refine cl [1, 3, 5, 9, 83, 84] (k := ?_)
      repeat refine gwp_seq ?_
      refine gwp_block ?_
      repeat refine gwp_seq ?_
      have f20 := shr_b (needN f f.ps.length) k (by omega)
      have f21 := and_b (needN f f.ps.length) k (by omega)
      have f22 := shl_b k (by omega)
      have hpk : 2 ^ k < 2 ^ 62 := Nat.pow_lt_pow_right (by omega) (by omega)
      have f23 : bitop .andNot .i64 (allS f.ps.length : Nat) ((2 ^ k : Nat) : Int) = (butN f k : Nat) := bitop_andNot_i64 (allS f.ps.length) (2 ^ k) (by omega) hpk
      have hnb := need_bit hv hq (show k < f.ps.length by omega)
      have hkb : k < f.ps.length := by omega
      refine gwp_region ?_
      refine v0 (k := ?_)
      refine v0 (k := ?_)
      refine nil0 ?_
      refine cl [1, 3, 5, 9, 10, 83, 84] (k := ?_)
      repeat refine gwp_seq ?_
      refine rd ?_
      refine d0 0 (k := ?_)
      refine d0 1 (k := ?_)
      refine d0 2 (k := ?_)
      refine d1 3 (hc := kLj1.h {}) (k := ?_)
      refine d0 4 (k := ?_)
      refine dpc0 5 (spec := m_good f hv (butN f k) (in_all (but_lt f k))) (hent := ent18) (k := ?_)
      refine d0 6 (k := ?_)
      refine d0 7 (k := ?_)
      refine d0 8 (k := ?_)
      refine d0 9 (k := ?_)
      refine d0 10 (k := ?_)
      refine d0 11 (k := ?_)
      refine d0 12 (k := ?_)
      refine d0 13 (k := ?_)
      refine d0 14 (k := ?_)
      refine dz 15 [0, 0, 0, 4, 14, 31, 63, 127, 127, 127, 127, 255, 2559, 7167, 16383] (h := ?_)
      refine de 15 (h := ?_)
      refine cl [1, 3, 5, 9, 10, 13, 14, 83, 84] (k := ?_)
      repeat refine gwp_seq ?_
      rcases hbk : listQ f (butN f k) with _ | _
      · obtain ⟨he, hln⟩ := misE_f hbk
        have f1 := bitN_t (hnb.trans (by rw [hbk]; rfl))
        repeat refine gwp_seq ?_
        refine gwp_region ?_
        refine v0 (k := ?_)
        refine v0 (k := ?_)
        refine rb 99 true (h := by (first | rfl | decide)) (k := ?_)
        refine v0 (k := ?_)
        refine v0 (k := ?_)
        refine v1 (hc := kLj1.h {}) (k := ?_)
        refine v0 (k := ?_)
        refine v0 (k := ?_)
        refine rb 104 true (h := by (first | rfl | decide)) (k := ?_)
        refine v0 (k := ?_)
        refine rb 105 false (h := by (first | rfl | decide)) (k := ?_)
        refine v0 (k := ?_)
        refine w0 (k := ?_)
        refine w0 (k := ?_)
        refine rb 108 true (h := by (first | rfl | decide)) (k := ?_)
        refine w0 (k := ?_)
        refine w0 (k := ?_)
        refine w0 (k := ?_)
        refine rb 111 false (h := by (first | with_reducible rfl | exact decide_eq_false (by omega) | exact nd_f (by omega) | rfl | decide)) (k := ?_)
        refine w0 (k := ?_)
        refine v0 (k := ?_)
        refine v0 (k := ?_)
        refine w0 (k := ?_)
        refine w0 (k := ?_)
        refine rb 116 false (h := by (first | rfl | decide)) (k := ?_)
        refine w0 (k := ?_)
        refine x0 (k := ?_)
        refine x0 (k := ?_)
        refine w0 (k := ?_)
        refine v0 (k := ?_)
        refine rb 121 false (h := by (rfl)) (k := ?_)
        refine nil0 ?_
        repeat refine gwp_seq ?_
        refine cF (k := ?_)
        repeat refine gwp_seq ?_
        refine gwp_skip ?_
        refine cl [1, 3, 5, 9, 83, 84] (k := ?_)
        repeat refine gwp_seq ?_
        refine gwp_region ?_
        refine v1 (hc := kLj1.h {}) (k := ?_)
        refine v0 (k := ?_)
        refine nil0 ?_
        refine lend [1, 3, 5, 9, 83, 84] (h := ?_) (hV := ?_) (n' := f.ps.length - (k + 1))
        · omega
        exact ⟨k + 1, by omega, rfl, rfl⟩
      · have he := misE_t hbk
        have f1 := bitN_f (hnb.trans (by rw [hbk]; rfl))
        repeat refine gwp_seq ?_
        refine gwp_region ?_
        refine v0 (k := ?_)
        refine v0 (k := ?_)
        refine rb 99 false (h := by (first | rfl | decide)) (k := ?_)
        refine v0 (k := ?_)
        refine v0 (k := ?_)
        refine v1 (hc := kLj1.h {}) (k := ?_)
        refine v0 (k := ?_)
        refine v0 (k := ?_)
        refine rb 104 false (h := by (first | rfl | decide)) (k := ?_)
        refine v0 (k := ?_)
        refine rb 105 false (h := by (first | rfl | decide)) (k := ?_)
        refine v0 (k := ?_)
        refine w0 (k := ?_)
        refine w0 (k := ?_)
        refine rb 108 false (h := by (first | rfl | decide)) (k := ?_)
        refine w0 (k := ?_)
        refine x0 (k := ?_)
        refine x0 (k := ?_)
        refine w0 (k := ?_)
        refine v0 (k := ?_)
        refine v0 (k := ?_)
        refine w0 (k := ?_)
        refine w0 (k := ?_)
        refine rb 116 true (h := by (first | rfl | decide)) (k := ?_)
        refine w0 (k := ?_)
        refine w0 (k := ?_)
        refine w0 (k := ?_)
        refine rb 119 false (h := by (first | rfl | decide)) (k := ?_)
        refine w0 (k := ?_)
        refine v0 (k := ?_)
        refine rb 121 false (h := by (rfl)) (k := ?_)
        refine nil0 ?_
        repeat refine gwp_seq ?_
        refine cF (k := ?_)
        repeat refine gwp_seq ?_
        refine gwp_skip ?_
        refine cl [1, 3, 5, 9, 83, 84] (k := ?_)
        repeat refine gwp_seq ?_
        refine gwp_region ?_
        refine v1 (hc := kLj1.h {}) (k := ?_)
        refine v0 (k := ?_)
        refine nil0 ?_
        refine lend [1, 3, 5, 9, 83, 84] (h := ?_) (hV := ?_) (n' := f.ps.length - (k + 1))
        · omega
        exact ⟨k + 1, by omega, rfl, rfl⟩
    · replace hb1 := hB.h {} hb1
      try rw [eqI] at hb1
      repeat refine gwp_seq ?_
      refine gwp_exit ?_
      repeat (first | refine gthen_exit ?_ | refine gnoGoto_exit ?_ | refine gblock_here ?_ | refine gblock_out rfl ?_)
      refine cl [1, 3, 5] (k := ?_)
      repeat refine gwp_seq ?_
      refine gwp_region ?_
      refine v0 (k := ?_)
      refine v0 (k := ?_)
      refine pc0 (spec := m_good f hv (needN f f.ps.length) (in_all hN)) (hent := ent18) (k := ?_)
      refine v0 (k := ?_)
      refine v0 (k := ?_)
      refine v0 (k := ?_)
      refine v0 (k := ?_)
      refine v0 (k := ?_)
      refine v0 (k := ?_)
      refine v0 (k := ?_)
      refine v0 (k := ?_)
      refine v0 (k := ?_)
      refine nil0 ?_
      refine cl [1, 3, 5, 18] (k := ?_)
      repeat refine gwp_seq ?_
      refine gwp_region ?_
      refine v0 (k := ?_)
      refine pc0 (spec := li_t f hv w hw) (hent := ent22) (k := ?_)
      refine v0 (k := ?_)
      refine v0 (k := ?_)
      refine v0 (k := ?_)
      refine v0 (k := ?_)
      refine v0 (k := ?_)
      refine nil0 ?_
      refine cl [3, 5, 18, 19, 20] (k := ?_)
      repeat refine gwp_seq ?_
      rcases hbn : listQ f (needN f f.ps.length) with _ | _
      · obtain ⟨he, hln⟩ := misE_f hbn
        repeat refine gwp_seq ?_
        refine gwp_region ?_
        refine v0 (k := ?_)
        refine v0 (k := ?_)
        refine rb 137 true (h := by (first | rfl | decide)) (k := ?_)
        refine v0 (k := ?_)
        refine x0 (k := ?_)
        refine x0 (k := ?_)
        refine x0 (k := ?_)
        refine x0 (k := ?_)
        refine x1 (k := ?_)
        refine x1 (k := ?_)
        refine x0 (k := ?_)
        refine v0 (k := ?_)
        refine rb 146 true (h := by (rfl)) (k := ?_)
        refine v0 (k := ?_)
        refine w0 (k := ?_)
        refine w0 (k := ?_)
        refine rb 149 true (h := by (first | rfl | decide)) (k := ?_)
        refine v0 (k := ?_)
        refine v0 (k := ?_)
        refine pcw (spec := l_awake) (hent := ent13) (k := ?_)
        refine rb 152 true (h := by (rfl)) (k := ?_)
        refine v0 (k := ?_)
        refine v0 (k := ?_)
        refine nil0 ?_
        repeat refine gwp_seq ?_
        refine gwp_ret ?_
        repeat (first | refine gthen_ret ?_ | refine gblock_ret ?_ | refine gnoGoto_ret ?_)
        refine fin_ret ?_
        refine fp (hR := ?_)
        rfl
      · have he := misE_t hbn
        obtain ⟨ho1, ho2⟩ := need_one hv hS hbn
        have ho3 := Nat.le_of_eq ho1
        have ho4 := Nat.le_of_eq ho1.symm
        have ho5 := Nat.le_of_eq ho2
        have ho6 := Nat.le_of_eq ho2.symm
        clear ho1 ho2
        repeat refine gwp_seq ?_
        refine gwp_region ?_
        refine v0 (k := ?_)
        refine v0 (k := ?_)
        refine rb 137 false (h := by (first | rfl | decide)) (k := ?_)
        refine v0 (k := ?_)
        refine w0 (k := ?_)
        refine w0 (k := ?_)
        refine w0 (k := ?_)
        refine rb 141 true (h := by (first | with_reducible rfl | exact decide_eq_true (by omega) | exact nd_t (by omega) | rfl | decide)) (k := ?_)
        refine w0 (k := ?_)
        refine w0 (k := ?_)
        refine w0 (k := ?_)
        refine rb 144 true (h := by (first | with_reducible rfl | exact decide_eq_true (by omega) | exact nd_t (by omega) | rfl | decide)) (k := ?_)
        refine w0 (k := ?_)
        refine v0 (k := ?_)
        refine rb 146 true (h := by (rfl)) (k := ?_)
        refine v0 (k := ?_)
        refine w0 (k := ?_)
        refine w0 (k := ?_)
        refine rb 149 true (h := by (first | rfl | decide)) (k := ?_)
        refine v0 (k := ?_)
        refine v0 (k := ?_)
        refine pcw (spec := l_awake) (hent := ent13) (k := ?_)
        refine rb 152 true (h := by (rfl)) (k := ?_)
        refine v0 (k := ?_)
        refine v0 (k := ?_)
        refine nil0 ?_
        repeat refine gwp_seq ?_
        refine gwp_ret ?_
        repeat (first | refine gthen_ret ?_ | refine gblock_ret ?_ | refine gnoGoto_ret ?_)
        refine fin_ret ?_
        refine fp (hR := ?_)
        rfl
theorem l_needed (f : Fd) : PSpec Try.prog 8 [.agg [.list (f.ps.map pS), .int .i64 f.el, .int .i64 f.eh, .int .i64 f.nl, .int .i64 f.nh, .int .i64 f.dl, .int .i64 f.dh, .int .i64 f.dep, .int .i64 f.tm, .int .i64 f.gp]] (.ok (.bool true)) := by
  cases hh : hvyQ f 12 300 with
  | true => exact l_need_x f hh
  | false =>
    cases hv : f.valid with
    | false => exact l_need_a f hh hv
    | true =>
      cases hw : (setsL f).find? (listQ f) with
      | none => exact l_need_b f hh hv hw
      | some w => exact l_need_c f hh hv w hw
end Go.Proofs.Ytabeeaiilanmjaa

/- The statement CoverNeeded, for every input: the law returns true, and its arguments read as they did.  -/
namespace Go.Proofs.Ytabeeaiilanmjaa
open Go.Gh Go.ChangeShapes Go.WideShapes Go.ChangeAt Go.RowKit
set_option maxRecDepth 100000
theorem aj_needed : ∀ ps, FitAs [(true, fdSS)] ps → PSpec Try.prog 8 ps (.ok (.bool true)) := fun ps h => by
  simp only [FitAs] at h
  obtain ⟨_, _, rfl, q0, rfl⟩ := h
  obtain ⟨f, rfl, hf⟩ := fd_of q0
  exact l_needed f
theorem needed_lifted (os : Os) (started : os.Started) (H : Type) (enc : TypeId × Value → H) :
    ReturnsInHanded {} Try.checked os 8 .any (Rows.coverNeededSpec.pre6 enc Try.prog Try.f8 Rows.coverNeededRow.domain false) (Rows.coverNeededSpec.post enc Try.prog Try.f8 false true false false) := by
  refine returnsInHanded_of_change (C := Try.checked) own started (by kernel_rfl) Try.func8
    (ChangeSpec.witness6 (enc := enc) (C := Try.checked) false ⟨#[], #[.agg #[.slice none 0 0, .int .i64 0, .int .i64 0, .int .i64 0, .int .i64 0, .int .i64 0, .int .i64 0, .int .i64 0, .int .i64 0, .int .i64 0]], []⟩ 8 (by kernel_rfl) (by kernel_rfl) (by kernel_rfl) (by kernel_rfl)) ?_
  intro W base args ds gs before hval hW _ _
  exact law_post (n := 9) (ss := [(true, fdSS)]) (b := 4) laidOut (by kernel_rfl) (by kernel_rfl) (by kernel_rfl) (by kernel_rfl) rfl
    (fun ds hd => by
      have hd' : ds.length = 1 := hd
      match ds, hd' with
      | [a], _ => rfl) aj_needed hval hW
theorem needed_holds : Rows.CoverNeededSaid :=
  OpenClaim.holds_of_wide 8 Try.f8 rfl rfl rfl rfl rfl rfl rfl ⟨rfl, rfl, rfl, rfl, rfl⟩ rfl rfl rfl rfl rfl (by kernel_rfl) Try.func8 (by kernel_rfl)
    (of_decide_eq_true (by kernel_rfl)) (by unfold Func.isWrapper; first | (rw [if_pos (by decide +kernel)]; kernel_rfl) | (rw [if_neg (by decide +kernel)]; exact ⟨rfl, rfl⟩))
    (fun os started H enc _ => needed_lifted os started H enc)
end Go.Proofs.Ytabeeaiilanmjaa
