/- The statement CoverFinds: the call returns true for every input, and its arguments read as before; no condition. -/
import Derived.Test.YtabeeaiilanmjaaB4
set_option linter.unusedVariables false
set_option linter.unusedSimpArgs false
/- More plates serve no less: sets that are lists, and larger ones. -/
namespace Go.Proofs.Ytabeeaiilanmjaa
open Go.Gh
set_option maxRecDepth 100000
/-- One set lies in another. -/
def Sub (s t : Nat) : Prop := ∀ i, s.testBit i = true → t.testBit i = true
theorem Sub.refl (s : Nat) : Sub s s := fun _ h => h
theorem Sub.trans {s t u : Nat} (h : Sub s t) (k : Sub t u) : Sub s u := fun i hi => k i (h i hi)
theorem and_sub (s t : Nat) : Sub (s &&& t) s := fun i h => by rw [Nat.testBit_and, Bool.and_eq_true] at h; exact h.1
theorem and_sub2 (s t : Nat) : Sub (s &&& t) t := fun i h => by rw [Nat.testBit_and, Bool.and_eq_true] at h; exact h.2
theorem Sub.and {s t : Nat} (h : Sub s t) (a : Nat) : Sub (a &&& s) (a &&& t) := fun i hi => by
  rw [Nat.testBit_and, Bool.and_eq_true] at hi ⊢
  exact ⟨hi.1, h i hi.2⟩
theorem days_sub {ps : List Sk} {s t : Nat} (h : Sub s t) : ∀ k, (daysN ps s k).Sublist (daysN ps t k)
  | 0 => List.Sublist.refl _
  | k + 1 => by
    have ih := days_sub (ps := ps) h k
    rw [daysN, daysN]
    split
    · by_cases hs : s.testBit k = true
      · rw [if_pos hs, if_pos (h k hs)]
        exact ih.append (List.Sublist.refl _)
      · rw [if_neg hs]
        split
        · exact ih.trans (List.sublist_append_left _ _)
        · exact ih
    · exact ih
/-- From a longer list no fewer can be chosen. -/
theorem most_sub {gap : Int} {l m : List Int} (h : l.Sublist m) : mostR gap l [] ≤ mostR gap m [] := by
  obtain ⟨t, h1, h2, h3⟩ := most_has gap l [] List.Pairwise.nil
  have := most_max gap m [] t (h1.trans h) h2
  rw [h3]
  exact this
theorem serv_sub {f : Fd} (hv : f.valid = true) {s t : Nat} (h : Sub s t) (hs : servQ f s = true) : servQ f t = true := by
  have hn := valid_num hv
  rw [servQ, grd_most (by omega), decide_eq_true_eq] at hs ⊢
  have := most_sub (gap := f.gp) (days_sub (ps := f.ps) h f.ps.length)
  omega
theorem list_sub {f : Fd} (hv : f.valid = true) {s t : Nat} (h : Sub s t) (hs : listQ f s = true) : listQ f t = true := by
  rw [listQ, List.all_eq_true] at hs ⊢
  exact fun p hp => serv_sub hv (h.and _) (hs p hp)
theorem at_used (f : Fd) (x y : Int) : Sub (atN f x y) (usedN f f.ps.length) := fun i h => by
  rw [atN, atK, setN_bit, Bool.and_eq_true, decide_eq_true_eq] at h
  rw [usedN, setN_bit, Bool.and_eq_true, decide_eq_true_eq]
  refine ⟨h.1, ?_⟩
  obtain ⟨h1, h2⟩ := h
  rw [plQ] at h2 ⊢
  split at h2
  · rename_i p hp
    rw [Bool.and_eq_true] at h2
    exact h2.1
  · cases h2
theorem used_lt2 (f : Fd) : usedN f f.ps.length < 2 ^ f.ps.length := setN_lt2 _ _
theorem and_and {a u s : Nat} (h : Sub a u) : a &&& (s &&& u) = a &&& s := Nat.eq_of_testBit_eq fun i => by
  rw [Nat.testBit_and, Nat.testBit_and, Nat.testBit_and]
  cases ha : a.testBit i with
  | false => rfl
  | true => rw [h i ha, Bool.and_true]
/-- Plates of no use make no list. -/
theorem list_used (f : Fd) (s : Nat) : listQ f (s &&& usedN f f.ps.length) = listQ f s := by
  rw [listQ, listQ]
  congr 1
  funext p
  rw [and_and (at_used f p.1 p.2)]
theorem all_bit {n i : Nat} : (allS n).testBit i = decide (i < n) := by rw [allS, Nat.testBit_two_pow_sub_one]
theorem all_sub {s n : Nat} (h : s < 2 ^ n) : Sub s (allS n) := fun i hi => by
  rw [all_bit, decide_eq_true_eq]
  apply Nat.lt_of_not_le
  intro h2
  rw [lt_bit h h2] at hi; cases hi
theorem list_all {f : Fd} : listQ f (allS f.ps.length) = listQ f (usedN f f.ps.length) := by
  rw [← list_used f (allS f.ps.length)]
  congr 1
  refine Nat.eq_of_testBit_eq fun i => ?_
  rw [Nat.testBit_and]
  cases h : (usedN f f.ps.length).testBit i with
  | false => rw [Bool.and_false]
  | true => rw [all_sub (used_lt2 f) i h]; rfl
theorem list_mis (f : Fd) (s : Nat) : (misL f s = []) ↔ listQ f s = true := by
  rw [misL, List.filter_eq_nil_iff, listQ, List.all_eq_true]
  constructor
  · intro h p hp
    have := h p hp
    rw [misQ] at this
    simpa using this
  · intro h p hp
    rw [misQ, h p hp]
    simp
end Go.Proofs.Ytabeeaiilanmjaa

/- The shortest list: the first one by size, then by number; how many are as short; what is needed. -/
namespace Go.Proofs.Ytabeeaiilanmjaa
open Go.Gh
set_option maxRecDepth 100000
theorem mod_bit (n : Nat) : n % 2 = if n.testBit 0 = true then 1 else 0 := by
  rw [Nat.testBit_zero]
  by_cases h : n % 2 = 1
  · rw [h]; rfl
  · rw [if_neg (by simpa using h)]; omega
theorem half_bit (n i : Nat) : (n / 2).testBit i = n.testBit (i + 1) := by rw [Nat.testBit_succ]
theorem Sub.half {s t : Nat} (h : Sub s t) : Sub (s / 2) (t / 2) := fun i hi => by rw [half_bit] at hi ⊢; exact h _ hi
/-- A set that lies in another one is no larger, and smaller unless it is the same. -/
theorem pop_sub : ∀ (n s t : Nat), s < 2 ^ n → t < 2 ^ n → n ≤ 12 → Sub s t → pop s < pop t ∨ s = t
  | 0, s, t, h1, h2, _, _ => .inr (by omega)
  | n + 1, s, t, h1, h2, hn, h => by
    have hp : 2 ^ (n + 1) ≤ 2 ^ 12 := Nat.pow_le_pow_right (by omega) hn
    have e1 := pop_half (m := s) (by omega)
    have e2 := pop_half (m := t) (by omega)
    rw [Nat.pow_succ] at h1 h2
    have ih := pop_sub n (s / 2) (t / 2) (by omega) (by omega) (by omega) h.half
    have hb : s % 2 ≤ t % 2 := by
      rw [mod_bit, mod_bit]
      by_cases h0 : s.testBit 0 = true
      · rw [if_pos h0, if_pos (h 0 h0)]; exact Nat.le_refl _
      · rw [if_neg h0]; exact Nat.zero_le _
    rcases ih with ih | ih
    · left; omega
    · rw [ih] at e1
      by_cases hb2 : s % 2 = t % 2
      · right; omega
      · left; omega
theorem sub_of {s u : Nat} (hs : s < 2 ^ 62) (hu : u < 2 ^ 62) : s &&& (2 ^ 64 - 1 - u) = 0 ↔ Sub s u := by
  constructor
  · intro h i hi
    have h2 := congrArg (Nat.testBit · i) h
    simp only [Nat.testBit_and, Nat.zero_testBit, hi, Bool.true_and] at h2
    rw [show 2 ^ 64 - 1 - u = 2 ^ 64 - (u + 1) by omega, Nat.testBit_two_pow_sub_succ (by omega)] at h2
    have hi62 : i < 62 := Nat.lt_of_not_le fun h3 => by rw [lt_bit hs h3] at hi; cases hi
    rw [decide_eq_true (show i < 64 by omega)] at h2
    simpa using h2
  · intro h
    exact Gh.sub_zero hs hu h
def Bef2 (a b : Nat) : Prop := pop a < pop b ∨ (pop a = pop b ∧ a < b)
theorem ok_pop {u z s : Nat} (h : okS u z s = true) : pop s = z := by
  rw [okS, Bool.and_eq_true, decide_eq_true_eq, decide_eq_true_eq] at h; exact h.2
theorem sz_pair (u z : Nat) : ∀ s, (szL u z s).Pairwise Bef2
  | 0 => List.Pairwise.nil
  | s + 1 => by
    have ih := sz_pair u z s
    rw [szL]
    split
    · rename_i h
      refine List.pairwise_append.2 ⟨ih, List.pairwise_singleton _ _, fun a ha b hb => ?_⟩
      rw [List.mem_singleton] at hb; subst hb
      have := sz_mem.1 ha
      exact .inr ⟨by rw [ok_pop this.2, ok_pop h], this.1⟩
    · exact ih
theorem set_pair (u N : Nat) : ∀ Z, (setL u N Z).Pairwise Bef2
  | 0 => List.Pairwise.nil
  | Z + 1 => by
    rw [setL]
    refine List.pairwise_append.2 ⟨set_pair u N Z, sz_pair u Z N, fun a ha b hb => ?_⟩
    obtain ⟨_, z, h1, h2⟩ := set_mem.1 ha
    have h3 := sz_mem.1 hb
    left
    rw [ok_pop h2, ok_pop h3.2]; exact h1
theorem sets_mem {f : Fd} (hl : f.ps.length ≤ 12) {x : Nat} : x ∈ setsL f ↔ x < 2 ^ f.ps.length ∧ Sub x (usedN f f.ps.length) := by
  have hp : 2 ^ f.ps.length ≤ 2 ^ 12 := Nat.pow_le_pow_right (by omega) hl
  have hu := used_lt2 f
  rw [setsL, set_mem]
  constructor
  · rintro ⟨h1, z, _, h2⟩
    rw [okS, Bool.and_eq_true, decide_eq_true_eq] at h2
    exact ⟨h1, (sub_of (by omega) (by omega)).1 h2.1⟩
  · rintro ⟨h1, h2⟩
    refine ⟨h1, pop x, ?_, ok_t ((sub_of (by omega) (by omega)).2 h2) rfl⟩
    rcases pop_sub _ x _ h1 hu hl h2 with h3 | h3
    · omega
    · rw [← h3]; omega
/-- What is said of the shortest list. -/
structure Sho (f : Fd) (w : Nat) : Prop where
  lt : w < 2 ^ f.ps.length
  sub : Sub w (usedN f f.ps.length)
  ls : listQ f w = true
  min : ∀ s, s < 2 ^ f.ps.length → listQ f s = true → pop w < pop s ∨ (pop w = pop s ∧ w ≤ s)
theorem and_lt2 {s u n : Nat} (h : s < 2 ^ n) : s &&& u < 2 ^ n := Nat.lt_of_le_of_lt Nat.and_le_left h
theorem sho_some {f : Fd} (hv : f.valid = true) {w : Nat} (h : (setsL f).find? (listQ f) = some w) : Sho f w := by
  have hn := valid_num hv
  have hl : f.ps.length ≤ 12 := by omega
  obtain ⟨h1, l1, l2, h2, h3⟩ := List.find?_eq_some_iff_append.1 h
  have hm := (sets_mem hl).1 (List.mem_of_find?_eq_some h)
  refine ⟨hm.1, hm.2, h1, fun s hs hq => ?_⟩
  have hu := used_lt2 f
  have hq2 : listQ f (s &&& usedN f f.ps.length) = true := by rw [list_used]; exact hq
  have hsm : s &&& usedN f f.ps.length ∈ setsL f := (sets_mem hl).2 ⟨and_lt2 hs, and_sub2 _ _⟩
  have hpw : (setsL f).Pairwise Bef2 := set_pair _ _ _
  have hle : pop w < pop (s &&& usedN f f.ps.length) ∨ (pop w = pop (s &&& usedN f f.ps.length) ∧ w ≤ s &&& usedN f f.ps.length) := by
    rw [h2] at hsm hpw
    rcases List.mem_append.1 hsm with h4 | h4
    · have := h3 _ h4
      rw [hq2] at this; cases this
    · rcases List.mem_cons.1 h4 with h4 | h4
      · rw [h4]; exact .inr ⟨rfl, Nat.le_refl _⟩
      · have := (List.pairwise_cons.1 (List.pairwise_append.1 hpw).2.1).1 _ h4
        rcases this with h5 | h5
        · exact .inl h5
        · exact .inr ⟨h5.1, by omega⟩
  rcases pop_sub _ (s &&& usedN f f.ps.length) s (and_lt2 hs) hs hl (and_sub _ _) with h5 | h5
  · left; omega
  · rwa [h5] at hle
theorem sho_none {f : Fd} (hv : f.valid = true) : (setsL f).find? (listQ f) = none ↔ listQ f (usedN f f.ps.length) = false := by
  have hn := valid_num hv
  rw [List.find?_eq_none]
  constructor
  · intro h
    have := h _ ((sets_mem (by omega)).2 ⟨used_lt2 f, Sub.refl _⟩)
    simpa using this
  · intro h x hx hq
    have := list_sub hv ((sets_mem (by omega)).1 hx).2 hq
    rw [h] at this; cases this
/-- One that is as short has just plates of use. -/
theorem same_sub {f : Fd} (hv : f.valid = true) {w : Nat} (h : Sho f w) {s : Nat} (hs : s < 2 ^ f.ps.length) (hq : listQ f s = true) (hp : pop s = pop w) : Sub s (usedN f f.ps.length) := by
  have hn := valid_num hv
  rcases pop_sub _ (s &&& usedN f f.ps.length) s (and_lt2 hs) hs (by omega) (and_sub _ _) with h5 | h5
  · have := h.min (s &&& usedN f f.ps.length) (and_lt2 hs) (by rw [list_used]; exact hq)
    omega
  · rw [← h5]; exact and_sub2 _ _
/-- How many sets up to one are as short, and lists. -/
def numR (f : Fd) (w : Nat) : Nat → Nat
  | 0 => 0
  | s + 1 => if sameQ f w s = true then numR f w s + 1 else numR f w s
theorem num_le (f : Fd) (w : Nat) : ∀ s, numR f w s ≤ s
  | 0 => Nat.le_refl _
  | s + 1 => by have := num_le f w s; rw [numR]; split <;> omega
theorem sz_count {f : Fd} (hv : f.valid = true) {w : Nat} (h : Sho f w) : ∀ s, s ≤ 2 ^ f.ps.length → (szL (usedN f f.ps.length) (pop w) s).countP (sameQ f w) = numR f w s
  | 0, _ => rfl
  | s + 1, hs => by
    have hn := valid_num hv
    have hp : 2 ^ f.ps.length ≤ 2 ^ 12 := Nat.pow_le_pow_right (by omega) (by omega)
    have hu := used_lt2 f
    have ih := sz_count hv h s (by omega)
    rw [szL, numR]
    by_cases hq : sameQ f w s = true
    · have hq2 := hq
      rw [sameQ, Bool.and_eq_true, decide_eq_true_eq] at hq2
      have hsub := same_sub hv h (show s < 2 ^ f.ps.length by omega) hq2.2 hq2.1
      rw [if_pos (ok_t ((sub_of (by omega) (by omega)).2 hsub) hq2.1), if_pos hq, List.countP_append, ih, List.countP_cons_of_pos hq]; rfl
    · rw [if_neg hq]
      split
      · rw [List.countP_append, ih, List.countP_cons_of_neg hq]; rfl
      · exact ih
theorem set_count {f : Fd} {w u N : Nat} : ∀ Z, (setL u N Z).countP (sameQ f w) = if pop w < Z then (szL u (pop w) N).countP (sameQ f w) else 0
  | 0 => rfl
  | Z + 1 => by
    rw [setL, List.countP_append, set_count Z]
    by_cases h : pop w = Z
    · rw [if_neg (by omega), if_pos (by omega), Nat.zero_add, h]
    · have : (szL u Z N).countP (sameQ f w) = 0 := by
        rw [List.countP_eq_zero]
        intro x hx hq
        rw [sameQ, Bool.and_eq_true, decide_eq_true_eq] at hq
        rw [ok_pop (sz_mem.1 hx).2] at hq
        omega
      rw [this, Nat.add_zero]
      by_cases h2 : pop w < Z
      · rw [if_pos h2, if_pos (by omega)]
      · rw [if_neg h2, if_neg (by omega)]
theorem cnt_num {f : Fd} (hv : f.valid = true) {w : Nat} (h : Sho f w) : cntA f w = numR f w (2 ^ f.ps.length) := by
  have hn := valid_num hv
  rw [cntA, cntL, List.take_length, setsL, set_count, if_pos, sz_count hv h _ (Nat.le_refl _)]
  rcases pop_sub _ w _ h.lt (used_lt2 f) (by omega) h.sub with h3 | h3
  · omega
  · rw [← h3]; omega
/-- None of its plates can be left out. -/
theorem off_sub {s k : Nat} (hs : s < 4096) (hk : k < 12) : Sub (s &&& (2 ^ 64 - 1 - 2 ^ k)) s := and_sub _ _
theorem off_bit {s k : Nat} (hk : k < 12) (i : Nat) : (s &&& (2 ^ 64 - 1 - 2 ^ k)).testBit i = (s.testBit i && !decide (k = i)) ∨ 64 ≤ i := by
  by_cases hi : 64 ≤ i
  · exact .inr hi
  · left
    have h2 : 2 ^ k < 2 ^ 64 := Nat.pow_lt_pow_right (by omega) (by omega)
    rw [Nat.testBit_and, show 2 ^ 64 - 1 - 2 ^ k = 2 ^ 64 - (2 ^ k + 1) by omega, Nat.testBit_two_pow_sub_succ h2, decide_eq_true (show i < 64 by omega), Bool.true_and, Nat.testBit_two_pow]
theorem sho_drop {f : Fd} (hv : f.valid = true) {w : Nat} (h : Sho f w) {k : Nat} (hk : k < 12) (hb : w.testBit k = true) : listQ f (w &&& (2 ^ 64 - 1 - 2 ^ k)) = false := by
  have hn := valid_num hv
  cases hq : listQ f (w &&& (2 ^ 64 - 1 - 2 ^ k)) with
  | false => rfl
  | true =>
    have h1 := h.min _ (and_lt2 h.lt) hq
    rcases pop_sub _ (w &&& (2 ^ 64 - 1 - 2 ^ k)) w (and_lt2 h.lt) h.lt (by omega) (and_sub _ _) with h2 | h2
    · omega
    · rcases off_bit (s := w) hk k with h3 | h3
      · rw [h2, hb] at h3; simp at h3
      · omega
end Go.Proofs.Ytabeeaiilanmjaa

/- What several statements use: what is missing, by cases; sets in range. -/
namespace Go.Proofs.Ytabeeaiilanmjaa
open Go.Gh
set_option maxRecDepth 100000
set_option maxHeartbeats 4000000
def misE (f : Fd) (s : Nat) : Int := match misL f s with | [] => 4 | _ :: _ => 0
theorem m_good (f : Fd) (hv : f.valid = true) (n : Nat) (h1 : inB (n : Nat) 0 (allS f.ps.length : Nat) = true) : PSpec Try.prog 18 [.agg [.list (f.ps.map pS), .int .i64 f.el, .int .i64 f.eh, .int .i64 f.nl, .int .i64 f.nh, .int .i64 f.dl, .int .i64 f.dh, .int .i64 f.dep, .int .i64 f.tm, .int .i64 f.gp], .int .i64 (n : Nat)] (.ok (.tuple [.int .i64 (hdL (misL f n)).1, .int .i64 (hdL (misL f n)).2, .int .i64 ((misL f n).length : Nat), .int .i64 (misE f n)])) := by
  rw [misE]
  rcases hm : misL f n with _ | ⟨e, l⟩
  · exact fun E A => p_miss_n f hv n h1 hm
  · have h := fun (E : Env Try.prog) (A : E.α) => p_miss_t (E := E) (A := A) f hv n h1 (by rw [hm]; simp)
    rw [hm] at h
    exact fun E A => h E A
theorem m_bad (f : Fd) (hv : f.valid = true) (s : Int) (h1 : inB s 0 (allS f.ps.length : Nat) = false) : PSpec Try.prog 18 [.agg [.list (f.ps.map pS), .int .i64 f.el, .int .i64 f.eh, .int .i64 f.nl, .int .i64 f.nh, .int .i64 f.dl, .int .i64 f.dh, .int .i64 f.dep, .int .i64 f.tm, .int .i64 f.gp], .int .i64 s] (.ok (.tuple [.int .i64 0, .int .i64 0, .int .i64 0, .int .i64 2])) := fun E A => p_miss_r f hv s h1
theorem m_none (f : Fd) (hl : f.ps.length ≤ 1048576) (hv : f.valid = false) (s : Int) : PSpec Try.prog 18 [.agg [.list (f.ps.map pS), .int .i64 f.el, .int .i64 f.eh, .int .i64 f.nl, .int .i64 f.nh, .int .i64 f.dl, .int .i64 f.dh, .int .i64 f.dep, .int .i64 f.tm, .int .i64 f.gp], .int .i64 s] (.ok (.tuple [.int .i64 0, .int .i64 0, .int .i64 0, .int .i64 1])) := fun E A => p_miss_f f hl hv s
theorem s_good (f : Fd) (hv : f.valid = true) (n : Nat) (a b : Int) (h1 : inB (n : Nat) 0 (allS f.ps.length : Nat) = true) (h2 : f.el ≤ a ∧ a ≤ f.eh) (h3 : f.nl ≤ b ∧ b ≤ f.nh) : PSpec Try.prog 16 [.agg [.list (f.ps.map pS), .int .i64 f.el, .int .i64 f.eh, .int .i64 f.nl, .int .i64 f.nh, .int .i64 f.dl, .int .i64 f.dh, .int .i64 f.dep, .int .i64 f.tm, .int .i64 f.gp], .int .i64 (n : Nat), .int .i64 a, .int .i64 b] (.ok (.tuple [.bool (servQ f (atN f a b &&& n)), .int .i64 0])) :=
  fun E A => p_served_t f hv n a b h1 (by simp only [inB, Bool.and_eq_true, decide_eq_true_eq]; exact h2) (by simp only [inB, Bool.and_eq_true, decide_eq_true_eq]; exact h3)
theorem mis_first {f : Fd} {s i j : Nat} (hi : i < wid f) (hj : j < hgt f) (h : servQ f (atN f (f.el + i) (f.nl + j) &&& s) = false) (h0 : (misC f s i j).length = 0) : (hdL (misL f s)).1 = f.el + i ∧ (hdL (misL f s)).2 = f.nl + j := by
  obtain ⟨t, ht⟩ := cur_pre f hi (show j + 1 ≤ hgt f by omega)
  have h1 : misC f s i (j + 1) = [(f.el + (i : Nat), f.nl + (j : Nat))] := by rw [misC_t h, List.eq_nil_of_length_eq_zero h0]; rfl
  have h2 : misL f s = misC f s i (j + 1) ++ t.filter (misQ f s) := by rw [misL, ht, List.filter_append]; rfl
  rw [h2, h1]
  exact ⟨rfl, rfl⟩
theorem bitop_and_i64 (x y : Nat) (hx : x < 2 ^ 62) (hy : y < 2 ^ 62) : bitop .and .i64 (x : Int) (y : Int) = ((x &&& y : Nat) : Int) := by
  have e1 : (BitVec.ofInt 64 (x : Int)).toNat = x := by rw [BitVec.toNat_ofInt]; omega
  have e2 : (BitVec.ofInt 64 (y : Int)).toNat = y := by rw [BitVec.toNat_ofInt]; omega
  have h : (x &&& y) < 2 ^ 62 := Nat.lt_of_le_of_lt Nat.and_le_left hx
  show IntKind.i64.wrap ((BitVec.ofInt 64 (x : Int) &&& BitVec.ofInt 64 (y : Int)).toNat : Int) = _
  rw [BitVec.toNat_and, e1, e2]
  exact IntWalk.i64_in ((x &&& y : Nat) : Int) (by omega)
theorem misE_list (f : Fd) (s : Nat) : (misE f s == 4) = listQ f s := by
  have h := list_mis f s
  rw [misE]
  rcases hm : misL f s with _ | ⟨e, l⟩
  · rw [(h.1 hm)]; rfl
  · cases hq : listQ f s with
    | false => rfl
    | true => rw [h.2 hq] at hm; cases hm
theorem in_all {n s : Nat} (h : s < 2 ^ n) : inB (s : Nat) 0 (allS n : Nat) = true := by
  have h2 : s ≤ allS n := by rw [allS]; omega
  simp only [inB, Bool.and_eq_true, decide_eq_true_eq]
  omega
theorem in_lt {n : Nat} : allS n < 2 ^ n := by have := Nat.two_pow_pos n; rw [allS]; omega
end Go.Proofs.Ytabeeaiilanmjaa

/- The greedy count, day by day: the least day that is late enough, again and again. -/
namespace Go.Proofs.Ytabeeaiilanmjaa
open Go.Gh
set_option maxRecDepth 100000
theorem grL_skip {gap x : Int} : ∀ {a b : List Int}, (∀ y ∈ a, ¬ gap ≤ y - x) → grL gap x (a ++ b) = grL gap x b
  | [], _, _ => rfl
  | y :: a, b, h => by
    rw [List.cons_append, grL, if_neg (h y List.mem_cons_self)]
    exact grL_skip fun z hz => h z (List.mem_cons_of_mem _ hz)
theorem grL_none {gap x : Int} {l : List Int} (h : ∀ y ∈ l, ¬ gap ≤ y - x) : grL gap x l = 0 := by
  have := grL_skip (b := []) h
  rw [List.append_nil] at this
  rw [this]; rfl
/-- The least day that is late enough is the next one. -/
theorem grL_next {gap x d : Int} (hg : 1 ≤ gap) {l : List Int} (hs : l.Pairwise (· ≤ ·)) (hd : d ∈ l) (h1 : gap ≤ d - x) (h2 : ∀ y ∈ l, gap ≤ y - x → d ≤ y) : grL gap x l = 1 + grL gap d l := by
  induction l with
  | nil => cases hd
  | cons y l ih =>
    have hp := List.pairwise_cons.1 hs
    rw [grL, grL]
    by_cases hy : gap ≤ y - x
    · have h3 := h2 y List.mem_cons_self hy
      have h4 : y ≤ d := by
        rcases List.mem_cons.1 hd with h | h
        · omega
        · exact hp.1 d h
      obtain rfl : d = y := by omega
      rw [if_pos hy, if_neg (by omega), Nat.add_comm]
    · rw [if_neg hy]
      rcases List.mem_cons.1 hd with h | h
      · subst h; exact absurd h1 hy
      · rw [if_neg (by have := hp.1 d h; omega)]
        exact ih hp.2 h fun z hz => h2 z (List.mem_cons_of_mem _ hz)
theorem grL_first {gap : Int} (hg : gap ≤ 65536) {l : List Int} (h : ∀ y ∈ l, 0 ≤ y) : (grd gap l).1 = (grL gap (-65537) l : Nat) := by
  cases l with
  | nil => rfl
  | cons d l =>
    rw [grd_cons, grL, if_pos (by have := h d List.mem_cons_self; omega), Nat.add_comm]
theorem grL_zero {x : Int} : ∀ {l : List Int}, l.Pairwise (· ≤ ·) → (∀ y ∈ l, x ≤ y) → grL 0 x l = l.length
  | [], _, _ => rfl
  | y :: l, hs, h => by
    have hp := List.pairwise_cons.1 hs
    rw [grL, if_pos (by have := h y List.mem_cons_self; omega), grL_zero hp.2 hp.1, List.length_cons]
/-- The least day that is late enough; -1: none. -/
def nxF (t b d : Int) : Int := if t ≤ d ∧ (b < 0 ∨ d < b) then d else b
def nxD (l : List Int) (t : Int) : Int := l.foldl (nxF t) (-1)
theorem nx_snoc (l : List Int) (t d : Int) : nxD (l ++ [d]) t = nxF t (nxD l t) d := by rw [nxD, List.foldl_append]; rfl
theorem nx_from {t : Int} : ∀ (l : List Int) (b : Int), (∀ y ∈ l, 0 ≤ y) → (l.foldl (nxF t) b = b ∧ (∀ y ∈ l, t ≤ y → 0 ≤ b ∧ b ≤ y)) ∨ (l.foldl (nxF t) b ∈ l ∧ t ≤ l.foldl (nxF t) b ∧ (0 ≤ b → l.foldl (nxF t) b < b) ∧ ∀ y ∈ l, t ≤ y → l.foldl (nxF t) b ≤ y)
  | [], b, _ => .inl ⟨rfl, fun y hy => by cases hy⟩
  | d :: l, b, h => by
    have hd := h d List.mem_cons_self
    have ih := nx_from (t := t) l (nxF t b d) fun y hy => h y (List.mem_cons_of_mem _ hy)
    rw [List.foldl_cons]
    by_cases hc : t ≤ d ∧ (b < 0 ∨ d < b)
    · have e : nxF t b d = d := if_pos hc
      rw [e] at ih ⊢
      right
      rcases ih with ⟨h1, h2⟩ | ⟨h1, h2, h3, h4⟩
      · rw [h1]
        exact ⟨List.mem_cons_self, hc.1, fun hb => by omega, fun y hy hty => by
          rcases List.mem_cons.1 hy with h5 | h5
          · omega
          · exact (h2 y h5 hty).2⟩
      · have h6 := h3 hd
        exact ⟨List.mem_cons_of_mem _ h1, h2, fun hb => by omega, fun y hy hty => by
          rcases List.mem_cons.1 hy with h5 | h5
          · omega
          · exact h4 y h5 hty⟩
    · have e : nxF t b d = b := if_neg hc
      rw [e] at ih ⊢
      rcases ih with ⟨h1, h2⟩ | ⟨h1, h2, h3, h4⟩
      · refine .inl ⟨h1, fun y hy hty => ?_⟩
        rcases List.mem_cons.1 hy with h5 | h5
        · subst h5; omega
        · exact h2 y h5 hty
      · refine .inr ⟨List.mem_cons_of_mem _ h1, h2, h3, fun y hy hty => ?_⟩
        rcases List.mem_cons.1 hy with h5 | h5
        · subst h5
          by_cases hb : 0 ≤ b
          · have := h3 hb; omega
          · omega
        · exact h4 y h5 hty
theorem nx_cases {l : List Int} (h : ∀ y ∈ l, 0 ≤ y) (t : Int) : (nxD l t < 0 ∧ ∀ y ∈ l, ¬ t ≤ y) ∨ (0 ≤ nxD l t ∧ nxD l t ∈ l ∧ t ≤ nxD l t ∧ ∀ y ∈ l, t ≤ y → nxD l t ≤ y) := by
  rcases nx_from (t := t) l (-1) h with ⟨h1, h2⟩ | ⟨h1, h2, _, h4⟩
  · exact .inl ⟨by rw [nxD, h1]; omega, fun y hy hty => by have := h2 y hy hty; omega⟩
  · exact .inr ⟨h _ h1, h1, h2, h4⟩
end Go.Proofs.Ytabeeaiilanmjaa

/- Contracts of the program, case by case. -/
namespace Go.Proofs.Ytabeeaiilanmjaa
open Go.Gh
set_option maxRecDepth 100000
set_option maxHeartbeats 4000000
theorem sh_t (f : Fd) (hv : f.valid = true) (w : Nat) (hw : (setsL f).find? (listQ f) = some w) : PSpec Try.prog 20 [.agg [.list (f.ps.map pS), .int .i64 f.el, .int .i64 f.eh, .int .i64 f.nl, .int .i64 f.nh, .int .i64 f.dl, .int .i64 f.dh, .int .i64 f.dep, .int .i64 f.tm, .int .i64 f.gp]] (.ok (.tuple [.int .i64 (w : Nat), .int .i64 0])) := fun E A => p_short_t f hv w hw
theorem sh_n (f : Fd) (hv : f.valid = true) (hw : (setsL f).find? (listQ f) = none) : PSpec Try.prog 20 [.agg [.list (f.ps.map pS), .int .i64 f.el, .int .i64 f.eh, .int .i64 f.nl, .int .i64 f.nh, .int .i64 f.dl, .int .i64 f.dh, .int .i64 f.dep, .int .i64 f.tm, .int .i64 f.gp]] (.ok (.tuple [.int .i64 0, .int .i64 4])) := fun E A => p_short_n f hv hw
theorem sh_f (f : Fd) (hl : f.ps.length ≤ 1048576) (hv : f.valid = false) : PSpec Try.prog 20 [.agg [.list (f.ps.map pS), .int .i64 f.el, .int .i64 f.eh, .int .i64 f.nl, .int .i64 f.nh, .int .i64 f.dl, .int .i64 f.dh, .int .i64 f.dep, .int .i64 f.tm, .int .i64 f.gp]] (.ok (.tuple [.int .i64 0, .int .i64 1])) := fun E A => p_short_f f hl hv
theorem li_t (f : Fd) (hv : f.valid = true) (w : Nat) (hw : (setsL f).find? (listQ f) = some w) : PSpec Try.prog 22 [.agg [.list (f.ps.map pS), .int .i64 f.el, .int .i64 f.eh, .int .i64 f.nl, .int .i64 f.nh, .int .i64 f.dl, .int .i64 f.dh, .int .i64 f.dep, .int .i64 f.tm, .int .i64 f.gp]] (.ok (.tuple [.int .i64 (cntA f w : Nat), .int .i64 0])) := fun E A => p_lists_t f hv w hw
theorem li_n (f : Fd) (hv : f.valid = true) (hw : (setsL f).find? (listQ f) = none) : PSpec Try.prog 22 [.agg [.list (f.ps.map pS), .int .i64 f.el, .int .i64 f.eh, .int .i64 f.nl, .int .i64 f.nh, .int .i64 f.dl, .int .i64 f.dh, .int .i64 f.dep, .int .i64 f.tm, .int .i64 f.gp]] (.ok (.tuple [.int .i64 0, .int .i64 4])) := fun E A => p_lists_n f hv hw
theorem li_f (f : Fd) (hl : f.ps.length ≤ 1048576) (hv : f.valid = false) : PSpec Try.prog 22 [.agg [.list (f.ps.map pS), .int .i64 f.el, .int .i64 f.eh, .int .i64 f.nl, .int .i64 f.nh, .int .i64 f.dl, .int .i64 f.dh, .int .i64 f.dep, .int .i64 f.tm, .int .i64 f.gp]] (.ok (.tuple [.int .i64 0, .int .i64 1])) := fun E A => p_lists_f f hl hv
theorem ne_t (f : Fd) (hv : f.valid = true) (hq : (listQ f (usedN f f.ps.length)) = true) : PSpec Try.prog 24 [.agg [.list (f.ps.map pS), .int .i64 f.el, .int .i64 f.eh, .int .i64 f.nl, .int .i64 f.nh, .int .i64 f.dl, .int .i64 f.dh, .int .i64 f.dep, .int .i64 f.tm, .int .i64 f.gp]] (.ok (.tuple [.int .i64 (needN f f.ps.length : Nat), .int .i64 0])) := fun E A => p_need_t f hv hq
theorem ne_n (f : Fd) (hv : f.valid = true) (hq : (listQ f (usedN f f.ps.length)) = false) : PSpec Try.prog 24 [.agg [.list (f.ps.map pS), .int .i64 f.el, .int .i64 f.eh, .int .i64 f.nl, .int .i64 f.nh, .int .i64 f.dl, .int .i64 f.dh, .int .i64 f.dep, .int .i64 f.tm, .int .i64 f.gp]] (.ok (.tuple [.int .i64 0, .int .i64 4])) := fun E A => p_need_n f hv hq
theorem ne_f (f : Fd) (hl : f.ps.length ≤ 1048576) (hv : f.valid = false) : PSpec Try.prog 24 [.agg [.list (f.ps.map pS), .int .i64 f.el, .int .i64 f.eh, .int .i64 f.nl, .int .i64 f.nh, .int .i64 f.dl, .int .i64 f.dh, .int .i64 f.dep, .int .i64 f.tm, .int .i64 f.gp]] (.ok (.tuple [.int .i64 0, .int .i64 1])) := fun E A => p_need_f f hl hv
theorem us_t (f : Fd) (hv : f.valid = true) : PSpec Try.prog 14 [.agg [.list (f.ps.map pS), .int .i64 f.el, .int .i64 f.eh, .int .i64 f.nl, .int .i64 f.nh, .int .i64 f.dl, .int .i64 f.dh, .int .i64 f.dep, .int .i64 f.tm, .int .i64 f.gp]] (.ok (.tuple [.int .i64 (usedN f f.ps.length : Nat), .int .i64 0])) := fun E A => p_useful_t f hv
theorem us_f (f : Fd) (hl : f.ps.length ≤ 1048576) (hv : f.valid = false) : PSpec Try.prog 14 [.agg [.list (f.ps.map pS), .int .i64 f.el, .int .i64 f.eh, .int .i64 f.nl, .int .i64 f.nh, .int .i64 f.dl, .int .i64 f.dh, .int .i64 f.dep, .int .i64 f.tm, .int .i64 f.gp]] (.ok (.tuple [.int .i64 0, .int .i64 1])) := fun E A => p_useful_f f hl hv
theorem ap_t (f : Fd) (hv : f.valid = true) (hq : (listQ f (usedN f f.ps.length)) = true) : PSpec Try.prog 26 [.agg [.list (f.ps.map pS), .int .i64 f.el, .int .i64 f.eh, .int .i64 f.nl, .int .i64 f.nh, .int .i64 f.dl, .int .i64 f.dh, .int .i64 f.dep, .int .i64 f.tm, .int .i64 f.gp]] (.ok (.tuple [.list ((apL f (allS f.ps.length)).map fun e : Int × Int => P.agg [.int .i64 e.1, .int .i64 e.2]), .int .i64 0])) := fun E A => p_apart_t f hv hq
theorem ap_n (f : Fd) (hv : f.valid = true) (hq : (listQ f (usedN f f.ps.length)) = false) : PSpec Try.prog 26 [.agg [.list (f.ps.map pS), .int .i64 f.el, .int .i64 f.eh, .int .i64 f.nl, .int .i64 f.nh, .int .i64 f.dl, .int .i64 f.dh, .int .i64 f.dep, .int .i64 f.tm, .int .i64 f.gp]] (.ok (.tuple [.list [], .int .i64 4])) := fun E A => p_apart_n f hv hq
theorem ap_f (f : Fd) (hl : f.ps.length ≤ 1048576) (hv : f.valid = false) : PSpec Try.prog 26 [.agg [.list (f.ps.map pS), .int .i64 f.el, .int .i64 f.eh, .int .i64 f.nl, .int .i64 f.nh, .int .i64 f.dl, .int .i64 f.dh, .int .i64 f.dep, .int .i64 f.tm, .int .i64 f.gp]] (.ok (.tuple [.list [], .int .i64 1])) := fun E A => p_apart_f f hl hv
end Go.Proofs.Ytabeeaiilanmjaa

/- The statement CoverFinds. -/
namespace Go.Proofs.Ytabeeaiilanmjaa
open Go.Gh
set_option maxRecDepth 100000
set_option maxHeartbeats 4000000
structure kLga1 (c : Prop) : Prop where
  h : c := by (first | exact True.intro | omega | (simp only [inI]; omega) | (simp [P.size, pS, all_int, allOne_p, goods_p, allOne, goods, good, G.one, P.one, P.cells] <;> first | omega | assumption | simp_all))
theorem z_bit {f : Fd} {s : Nat} {x y : Int} {k : Nat} {p : Sk} (hp : f.ps[k]? = some p) : (atN f x y &&& s).testBit k = ((s &&& usedN f f.ps.length).testBit k && hasQ p x y) := by
  have hk := (List.getElem?_eq_some_iff.1 hp).1
  rw [Nat.testBit_and, Nat.testBit_and, atN, atK, usedN, setN_bit, setN_bit, decide_eq_true hk, Bool.true_and, Bool.true_and, plQ, plQ, hp]
  simp only []
  cases s.testBit k <;> cases useQ f p <;> cases hasQ p x y <;> rfl
theorem days_t {f : Fd} {z k : Nat} {p : Sk} (hp : f.ps[k]? = some p) (h : z.testBit k = true) : daysN f.ps z (k + 1) = daysN f.ps z k ++ [p.day] := by rw [daysN, hp]; exact if_pos h
theorem days_f {f : Fd} {z k : Nat} {p : Sk} (hp : f.ps[k]? = some p) (h : z.testBit k = false) : daysN f.ps z (k + 1) = daysN f.ps z k := by rw [daysN, hp]; exact if_neg (by rw [h]; simp)
theorem days_mem {f : Fd} (hv : f.valid = true) {z : Nat} {d : Int} : ∀ {k}, d ∈ daysN f.ps z k → 0 ≤ d ∧ d ≤ 65536
  | 0, h => by cases h
  | k + 1, h => by
    rw [daysN] at h
    split at h
    · rename_i p hp
      split at h
      · rcases List.mem_append.1 h with h | h
        · exact days_mem hv h
        · rw [List.mem_singleton] at h
          subst h
          exact (valid_ps hv (List.mem_of_getElem? hp)).2.2.1
      · exact days_mem hv h
    · exact days_mem hv h
theorem has_f {p : Sk} {u v : Int} (h : u < p.el ∨ p.eh < u ∨ v < p.nl ∨ p.nh < v) : hasQ p u v = false := by
  cases hq : hasQ p u v with
  | false => rfl
  | true =>
    simp only [hasQ, inB, Bool.and_eq_true, decide_eq_true_eq] at hq
    omega
theorem has_t {p : Sk} {u v : Int} (h : (p.el ≤ u ∧ u ≤ p.eh) ∧ p.nl ≤ v ∧ v ≤ p.nh) : hasQ p u v = true := by
  simp only [hasQ, inB, Bool.and_eq_true, decide_eq_true_eq]
  exact h
theorem z_f1 {f : Fd} {s : Nat} {u v : Int} {k : Nat} {p : Sk} (hp : f.ps[k]? = some p) (h : (s &&& usedN f f.ps.length).testBit k = false) : daysN f.ps (atN f u v &&& s) (k + 1) = daysN f.ps (atN f u v &&& s) k := days_f hp (by rw [z_bit hp, h]; rfl)
theorem z_f2 {f : Fd} {s : Nat} {u v : Int} {k : Nat} {p : Sk} (hp : f.ps[k]? = some p) (h : u < p.el ∨ p.eh < u ∨ v < p.nl ∨ p.nh < v) : daysN f.ps (atN f u v &&& s) (k + 1) = daysN f.ps (atN f u v &&& s) k := days_f hp (by rw [z_bit hp, has_f h, Bool.and_false])
theorem z_t {f : Fd} {s : Nat} {u v : Int} {k : Nat} {p : Sk} (hp : f.ps[k]? = some p) (hb : (s &&& usedN f f.ps.length).testBit k = true) (h : (p.el ≤ u ∧ u ≤ p.eh) ∧ p.nl ≤ v ∧ v ≤ p.nh) : daysN f.ps (atN f u v &&& s) (k + 1) = daysN f.ps (atN f u v &&& s) k ++ [p.day] := days_t hp (by rw [z_bit hp, hb, has_t h]; rfl)
theorem grL_le (gap : Int) : ∀ (x : Int) (l : List Int), grL gap x l ≤ l.length
  | _, [] => Nat.le_refl _
  | x, d :: l => by
    have h1 := grL_le gap d l
    have h2 := grL_le gap x l
    rw [grL, List.length_cons]
    split <;> omega
theorem serv_grL {f : Fd} (hv : f.valid = true) (z : Nat) : servQ f z = decide (f.tm ≤ (grL f.gp (-65537) (sortI (daysN f.ps z f.ps.length)) : Nat)) := by
  have hn := valid_num hv
  rw [servQ, grL_first (by omega) fun y hy => (days_mem hv ((sortI_perm _).mem_iff.1 hy)).1]
theorem serv_zero {f : Fd} (hv : f.valid = true) (z : Nat) (h : f.gp = 0) : servQ f z = decide (f.tm ≤ ((daysN f.ps z f.ps.length).length : Nat)) := by
  rw [serv_grL hv, h, grL_zero (sortI_sorted _) fun y hy => by have := (days_mem hv ((sortI_perm _).mem_iff.1 hy)).1; omega, sortI_len]
theorem ent30 : Enters Try.prog 30 := Enters.mk Try.func30 (by kernel_rfl) rfl
theorem q_30 {E : Env Try.prog} {A : E.α} (f : Fd) (hv : f.valid = true) (s : Nat) (hs : s < 2 ^ f.ps.length) (u v : Int) : Gh.Spec E 30 [.p (.int .i64 (s : Nat)), .ptr [.p (.list (f.ps.map pS)), .p (.int .i64 f.el), .p (.int .i64 f.eh), .p (.int .i64 f.nl), .p (.int .i64 f.nh), .p (.int .i64 f.dl), .p (.int .i64 f.dh), .p (.int .i64 f.dep), .p (.int .i64 f.tm), .p (.int .i64 f.gp)], .ptr [.p (.int .i64 (usedN f f.ps.length : Nat))], .ptr [.p (.int .i64 u)], .ptr [.p (.int .i64 v)]] (mkHp []) A (fun y => y = .ok (.p (.bool (servQ f (atN f u v &&& s)))) (mkHp []) A) := by
  refine spec_of Try.func30 (rfl : Try.f30.body = some _) (Nat.le_of_ble_eq_true rfl) (fun id h => ?_) (fun j id h => ?_) ?_
  · exact wf1x h
  · exact wf2x h
  intro C hN hL
  replace hN : C.N = 144 := hN
  simp only [Gh.num, List.map_cons, List.map_nil, Nat.reduceAdd]
  have hdt : ∀ (i : Decidable True), @decide True i = true := fun i => decide_eq_true trivial
  have hn := valid_num hv
  have hpS : ∀ p : Sk, pS p = P.agg [.int .i64 p.el, .int .i64 p.eh, .int .i64 p.nl, .int .i64 p.nh, .int .i64 p.day, .int .i64 p.dep] := fun _ => rfl
  have hu := used_lt f (k := f.ps.length) (by omega)
  have hp12 : 2 ^ f.ps.length ≤ 2 ^ 12 := Nat.pow_le_pow_right (by omega) (by omega)
  have hand := bitop_and_i64 s (usedN f f.ps.length) (by omega) (by omega)
  have hsu : s &&& usedN f f.ps.length < 4096 := Nat.lt_of_le_of_lt Nat.and_le_left (by omega)
  repeat refine gwp_seq ?_
  refine gwp_region ?_
  refine v0 (k := ?_)
  refine nil0 ?_
  refine cl [0, 1, 2, 3, 4] (k := ?_)
  repeat refine gwp_seq ?_
  refine gwp_region ?_
  refine v0 (k := ?_)
  refine v0 (k := ?_)
  refine nil0 ?_
  refine cl [0, 1, 2, 3, 4, 7, 8] (k := ?_)
  repeat refine gwp_seq ?_
  refine gwp_block ?_
  repeat refine gwp_seq ?_
  refine gc_loop (fun mz σ => ∃ (c : Nat) (la : Int), (c + grL f.gp la (sortI (daysN f.ps (atN f u v &&& s) f.ps.length)) = grL f.gp (-65537) (sortI (daysN f.ps (atN f u v &&& s) f.ps.length))) ∧ (-65537 ≤ la ∧ la ≤ 65536) ∧ (f.gp = 0 → c = 0) ∧ mz = grL f.gp la (sortI (daysN f.ps (atN f u v &&& s) f.ps.length)) ∧ σ = (sg [(0, .p (.int .i64 (s : Nat))), (1, .ptr [.p (.list (f.ps.map pS)), .p (.int .i64 f.el), .p (.int .i64 f.eh), .p (.int .i64 f.nl), .p (.int .i64 f.nh), .p (.int .i64 f.dl), .p (.int .i64 f.dh), .p (.int .i64 f.dep), .p (.int .i64 f.tm), .p (.int .i64 f.gp)]), (2, .ptr [.p (.int .i64 (usedN f f.ps.length : Nat))]), (3, .ptr [.p (.int .i64 u)]), (4, .ptr [.p (.int .i64 v)]), (7, .p (.int .i64 (c : Nat))), (8, .p (.int .i64 la))] [] A [] : Sg E)) ?_ (fun mz σ hI => ?_)
  · refine lbeg [0, 1, 2, 3, 4, 7, 8] (hV := ?_)
    exact ⟨_, 0, -65537, by omega, by omega, fun _ => rfl, rfl, rfl⟩
  obtain ⟨c, la, hcg, hla, hg0, hnn, rfl⟩ := hI
  repeat refine gwp_seq ?_
  refine gwp_block ?_
  repeat refine gwp_seq ?_
  refine gwp_region ?_
  refine v0 (k := ?_)
  refine nil0 ?_
  refine cl [0, 1, 2, 3, 4, 7, 8, 9] (k := ?_)
  repeat refine gwp_seq ?_
  refine gwp_region ?_
  refine v0 (k := ?_)
  refine v0 (k := ?_)
  refine v0 (k := ?_)
  refine v0 (k := ?_)
  refine nil0 ?_
  refine cl [0, 1, 2, 3, 4, 7, 8, 9, 15, 16, 17] (k := ?_)
  repeat refine gwp_seq ?_
  refine gwp_block ?_
  repeat refine gwp_seq ?_
  refine gc_loop (fun mz σ => ∃ k : Nat, (k ≤ f.ps.length) ∧ mz = f.ps.length - k ∧ σ = (sg [(0, .p (.int .i64 (s : Nat))), (1, .ptr [.p (.list (f.ps.map pS)), .p (.int .i64 f.el), .p (.int .i64 f.eh), .p (.int .i64 f.nl), .p (.int .i64 f.nh), .p (.int .i64 f.dl), .p (.int .i64 f.dh), .p (.int .i64 f.dep), .p (.int .i64 f.tm), .p (.int .i64 f.gp)]), (2, .ptr [.p (.int .i64 (usedN f f.ps.length : Nat))]), (3, .ptr [.p (.int .i64 u)]), (4, .ptr [.p (.int .i64 v)]), (7, .p (.int .i64 (c : Nat))), (8, .p (.int .i64 la)), (9, .p (.int .i64 (nxD (daysN f.ps (atN f u v &&& s) k) (la + f.gp)))), (15, .p (.list (f.ps.map pS))), (16, .p (.int .i64 (f.ps.length : Nat))), (17, .p (.int .i64 (k : Nat)))] [] A [] : Sg E)) ?_ (fun mz σ hI => ?_)
  · refine lbeg [0, 1, 2, 3, 4, 7, 8, 9, 15, 16, 17] (hV := ?_)
    exact ⟨_, 0, by omega, rfl, rfl⟩
  obtain ⟨k, hk, hnn2, rfl⟩ := hI
  repeat refine gwp_seq ?_
  refine gwp_region ?_
  refine v0 (k := ?_)
  refine nil0 ?_
  repeat refine gwp_seq ?_
  refine cB (k1 := fun hb1 => ?_) (k0 := fun hb1 => ?_)
  · replace hb1 := hB.h {} hb1
    try rw [eqI] at hb1
    repeat refine gwp_seq ?_
    refine gwp_skip ?_
    refine cl [0, 1, 2, 3, 4, 7, 8, 9, 15, 16, 17] (k := ?_)
    repeat refine gwp_seq ?_
    refine gwp_block ?_
    repeat refine gwp_seq ?_
    obtain ⟨p, hp⟩ := getE (l := f.ps) (k := k) (by omega)
    have f20 := shr_b (s &&& usedN f f.ps.length) k (by omega)
    have f21 := and_b (s &&& usedN f f.ps.length) k (by omega)
    have hnx := nx_cases (l := (daysN f.ps (atN f u v &&& s) k)) (fun y hy => (days_mem hv hy).1) (la + f.gp)
    have hpd := (valid_ps hv (List.mem_of_getElem? hp)).2.2.1
    refine gwp_region ?_
    refine v0 (k := ?_)
    refine v1 (hc := kLga1.h {}) (k := ?_)
    refine v0 (k := ?_)
    refine n1 210 false (hc := kLga1.h {}) (k := ?_)
    refine v0 (k := ?_)
    refine s1 (hc := kLga1.h {}) (k := ?_)
    refine nil0 ?_
    refine cl [0, 1, 2, 3, 4, 7, 8, 9, 10, 11, 15, 16, 17] (k := ?_)
    repeat refine gwp_seq ?_
    rcases hbk : (s &&& usedN f f.ps.length).testBit k with _ | _
    · have f1 := bitN_f hbk
      repeat refine gwp_seq ?_
      refine gwp_region ?_
      refine v0 (k := ?_)
      refine v0 (k := ?_)
      refine v0 (k := ?_)
      refine v0 (k := ?_)
      refine v1 (hc := kLga1.h {}) (k := ?_)
      refine v0 (k := ?_)
      refine v0 (k := ?_)
      refine rb 28 true (h := by (rfl)) (k := ?_)
      refine v0 (k := ?_)
      refine x0 (k := ?_)
      refine x0 (k := ?_)
      refine x0 (k := ?_)
      refine x0 (k := ?_)
      refine x0 (k := ?_)
      refine v0 (k := ?_)
      refine v0 (k := ?_)
      refine x0 (k := ?_)
      refine x0 (k := ?_)
      refine x0 (k := ?_)
      refine x0 (k := ?_)
      refine x0 (k := ?_)
      refine v0 (k := ?_)
      refine v0 (k := ?_)
      refine x0 (k := ?_)
      refine x0 (k := ?_)
      refine x0 (k := ?_)
      refine x0 (k := ?_)
      refine x0 (k := ?_)
      refine v0 (k := ?_)
      refine v0 (k := ?_)
      refine x0 (k := ?_)
      refine x0 (k := ?_)
      refine x0 (k := ?_)
      refine x0 (k := ?_)
      refine x0 (k := ?_)
      refine v0 (k := ?_)
      refine nil0 ?_
      repeat refine gwp_seq ?_
      refine cT (k := ?_)
      repeat refine gwp_seq ?_
      refine gwp_exit ?_
      repeat (first | refine gthen_exit ?_ | refine gnoGoto_exit ?_ | refine gblock_here ?_ | refine gblock_out rfl ?_)
      refine cl [0, 1, 2, 3, 4, 7, 8, 9, 15, 16, 17] (k := ?_)
      repeat refine gwp_seq ?_
      refine gwp_region ?_
      refine v1 (hc := kLga1.h {}) (k := ?_)
      refine v0 (k := ?_)
      refine nil0 ?_
      refine lend [0, 1, 2, 3, 4, 7, 8, 9, 15, 16, 17] (h := ?_) (hV := ?_) (n' := f.ps.length - (k + 1))
      · omega
      first
      | exact ⟨k + 1, by omega, rfl, sgE (by rw [z_f1 hp (by assumption)]; rfl) rfl⟩
      | exact ⟨k + 1, by omega, rfl, sgE (by rw [z_f2 hp (by omega)]; rfl) rfl⟩
      | exact ⟨k + 1, by omega, rfl, sgE (by rw [z_t hp (by assumption) (by omega), nx_snoc, nxF, if_pos (by omega)]; rfl) rfl⟩
      | exact ⟨k + 1, by omega, rfl, sgE (by rw [z_t hp (by assumption) (by omega), nx_snoc, nxF, if_neg (by omega)]; rfl) rfl⟩
    · have f1 := bitN_t hbk
      repeat refine gwp_seq ?_
      refine gwp_region ?_
      refine v0 (k := ?_)
      refine v0 (k := ?_)
      refine v0 (k := ?_)
      refine v0 (k := ?_)
      refine v1 (hc := kLga1.h {}) (k := ?_)
      refine v0 (k := ?_)
      refine v0 (k := ?_)
      refine rb 28 false (h := by (rfl)) (k := ?_)
      refine v0 (k := ?_)
      refine w0 (k := ?_)
      refine w0 (k := ?_)
      refine w0 (k := ?_)
      refine w0 (k := ?_)
      refine w0 (k := ?_)
      refine v0 (k := ?_)
      refine v0 (k := ?_)
      refine b0 (k1 := fun hb2 => ?_) (k0 := fun hb2 => ?_)
      · replace hb2 := hB.h {} hb2
        try rw [eqI] at hb2
        refine x0 (k := ?_)
        refine x0 (k := ?_)
        refine x0 (k := ?_)
        refine x0 (k := ?_)
        refine x0 (k := ?_)
        refine v0 (k := ?_)
        refine v0 (k := ?_)
        refine x0 (k := ?_)
        refine x0 (k := ?_)
        refine x0 (k := ?_)
        refine x0 (k := ?_)
        refine x0 (k := ?_)
        refine v0 (k := ?_)
        refine v0 (k := ?_)
        refine x0 (k := ?_)
        refine x0 (k := ?_)
        refine x0 (k := ?_)
        refine x0 (k := ?_)
        refine x0 (k := ?_)
        refine v0 (k := ?_)
        refine nil0 ?_
        repeat refine gwp_seq ?_
        refine cT (k := ?_)
        repeat refine gwp_seq ?_
        refine gwp_exit ?_
        repeat (first | refine gthen_exit ?_ | refine gnoGoto_exit ?_ | refine gblock_here ?_ | refine gblock_out rfl ?_)
        refine cl [0, 1, 2, 3, 4, 7, 8, 9, 15, 16, 17] (k := ?_)
        repeat refine gwp_seq ?_
        refine gwp_region ?_
        refine v1 (hc := kLga1.h {}) (k := ?_)
        refine v0 (k := ?_)
        refine nil0 ?_
        refine lend [0, 1, 2, 3, 4, 7, 8, 9, 15, 16, 17] (h := ?_) (hV := ?_) (n' := f.ps.length - (k + 1))
        · omega
        first
        | exact ⟨k + 1, by omega, rfl, sgE (by rw [z_f1 hp (by assumption)]; rfl) rfl⟩
        | exact ⟨k + 1, by omega, rfl, sgE (by rw [z_f2 hp (by omega)]; rfl) rfl⟩
        | exact ⟨k + 1, by omega, rfl, sgE (by rw [z_t hp (by assumption) (by omega), nx_snoc, nxF, if_pos (by omega)]; rfl) rfl⟩
        | exact ⟨k + 1, by omega, rfl, sgE (by rw [z_t hp (by assumption) (by omega), nx_snoc, nxF, if_neg (by omega)]; rfl) rfl⟩
      · replace hb2 := hB.h {} hb2
        try rw [eqI] at hb2
        refine w0 (k := ?_)
        refine w0 (k := ?_)
        refine w0 (k := ?_)
        refine w0 (k := ?_)
        refine w0 (k := ?_)
        refine v0 (k := ?_)
        refine v0 (k := ?_)
        refine b0 (k1 := fun hb3 => ?_) (k0 := fun hb3 => ?_)
        · replace hb3 := hB.h {} hb3
          try rw [eqI] at hb3
          refine x0 (k := ?_)
          refine x0 (k := ?_)
          refine x0 (k := ?_)
          refine x0 (k := ?_)
          refine x0 (k := ?_)
          refine v0 (k := ?_)
          refine v0 (k := ?_)
          refine x0 (k := ?_)
          refine x0 (k := ?_)
          refine x0 (k := ?_)
          refine x0 (k := ?_)
          refine x0 (k := ?_)
          refine v0 (k := ?_)
          refine nil0 ?_
          repeat refine gwp_seq ?_
          refine cT (k := ?_)
          repeat refine gwp_seq ?_
          refine gwp_exit ?_
          repeat (first | refine gthen_exit ?_ | refine gnoGoto_exit ?_ | refine gblock_here ?_ | refine gblock_out rfl ?_)
          refine cl [0, 1, 2, 3, 4, 7, 8, 9, 15, 16, 17] (k := ?_)
          repeat refine gwp_seq ?_
          refine gwp_region ?_
          refine v1 (hc := kLga1.h {}) (k := ?_)
          refine v0 (k := ?_)
          refine nil0 ?_
          refine lend [0, 1, 2, 3, 4, 7, 8, 9, 15, 16, 17] (h := ?_) (hV := ?_) (n' := f.ps.length - (k + 1))
          · omega
          first
          | exact ⟨k + 1, by omega, rfl, sgE (by rw [z_f1 hp (by assumption)]; rfl) rfl⟩
          | exact ⟨k + 1, by omega, rfl, sgE (by rw [z_f2 hp (by omega)]; rfl) rfl⟩
          | exact ⟨k + 1, by omega, rfl, sgE (by rw [z_t hp (by assumption) (by omega), nx_snoc, nxF, if_pos (by omega)]; rfl) rfl⟩
          | exact ⟨k + 1, by omega, rfl, sgE (by rw [z_t hp (by assumption) (by omega), nx_snoc, nxF, if_neg (by omega)]; rfl) rfl⟩
        · replace hb3 := hB.h {} hb3
          try rw [eqI] at hb3
          refine w0 (k := ?_)
          refine w0 (k := ?_)
          refine w0 (k := ?_)
          refine w0 (k := ?_)
          refine w0 (k := ?_)
          refine v0 (k := ?_)
          refine v0 (k := ?_)
          refine b0 (k1 := fun hb4 => ?_) (k0 := fun hb4 => ?_)
          · replace hb4 := hB.h {} hb4
            try rw [eqI] at hb4
            refine x0 (k := ?_)
            refine x0 (k := ?_)
            refine x0 (k := ?_)
            refine x0 (k := ?_)
            refine x0 (k := ?_)
            refine v0 (k := ?_)
            refine nil0 ?_
            repeat refine gwp_seq ?_
            refine cT (k := ?_)
            repeat refine gwp_seq ?_
            refine gwp_exit ?_
            repeat (first | refine gthen_exit ?_ | refine gnoGoto_exit ?_ | refine gblock_here ?_ | refine gblock_out rfl ?_)
            refine cl [0, 1, 2, 3, 4, 7, 8, 9, 15, 16, 17] (k := ?_)
            repeat refine gwp_seq ?_
            refine gwp_region ?_
            refine v1 (hc := kLga1.h {}) (k := ?_)
            refine v0 (k := ?_)
            refine nil0 ?_
            refine lend [0, 1, 2, 3, 4, 7, 8, 9, 15, 16, 17] (h := ?_) (hV := ?_) (n' := f.ps.length - (k + 1))
            · omega
            first
            | exact ⟨k + 1, by omega, rfl, sgE (by rw [z_f1 hp (by assumption)]; rfl) rfl⟩
            | exact ⟨k + 1, by omega, rfl, sgE (by rw [z_f2 hp (by omega)]; rfl) rfl⟩
            | exact ⟨k + 1, by omega, rfl, sgE (by rw [z_t hp (by assumption) (by omega), nx_snoc, nxF, if_pos (by omega)]; rfl) rfl⟩
            | exact ⟨k + 1, by omega, rfl, sgE (by rw [z_t hp (by assumption) (by omega), nx_snoc, nxF, if_neg (by omega)]; rfl) rfl⟩
          · replace hb4 := hB.h {} hb4
            try rw [eqI] at hb4
            refine w0 (k := ?_)
            refine w0 (k := ?_)
            refine w0 (k := ?_)
            refine w0 (k := ?_)
            refine w0 (k := ?_)
            refine v0 (k := ?_)
            refine nil0 ?_
            repeat refine gwp_seq ?_
            refine cB (k1 := fun hb5 => ?_) (k0 := fun hb5 => ?_)
            · replace hb5 := hB.h {} hb5
              try rw [eqI] at hb5
              repeat refine gwp_seq ?_
              refine gwp_exit ?_
              repeat (first | refine gthen_exit ?_ | refine gnoGoto_exit ?_ | refine gblock_here ?_ | refine gblock_out rfl ?_)
              refine cl [0, 1, 2, 3, 4, 7, 8, 9, 15, 16, 17] (k := ?_)
              repeat refine gwp_seq ?_
              refine gwp_region ?_
              refine v1 (hc := kLga1.h {}) (k := ?_)
              refine v0 (k := ?_)
              refine nil0 ?_
              refine lend [0, 1, 2, 3, 4, 7, 8, 9, 15, 16, 17] (h := ?_) (hV := ?_) (n' := f.ps.length - (k + 1))
              · omega
              first
              | exact ⟨k + 1, by omega, rfl, sgE (by rw [z_f1 hp (by assumption)]; rfl) rfl⟩
              | exact ⟨k + 1, by omega, rfl, sgE (by rw [z_f2 hp (by omega)]; rfl) rfl⟩
              | exact ⟨k + 1, by omega, rfl, sgE (by rw [z_t hp (by assumption) (by omega), nx_snoc, nxF, if_pos (by omega)]; rfl) rfl⟩
              | exact ⟨k + 1, by omega, rfl, sgE (by rw [z_t hp (by assumption) (by omega), nx_snoc, nxF, if_neg (by omega)]; rfl) rfl⟩
            · replace hb5 := hB.h {} hb5
              try rw [eqI] at hb5
              repeat refine gwp_seq ?_
              refine gwp_skip ?_
              refine cl [0, 1, 2, 3, 4, 7, 8, 9, 11, 15, 16, 17] (k := ?_)
              repeat refine gwp_seq ?_
              refine gwp_region ?_
              refine v0 (k := ?_)
              refine v0 (k := ?_)
              refine v0 (k := ?_)
              refine v0 (k := ?_)
              refine v0 (k := ?_)
              refine v1 (hc := kLga1.h {}) (k := ?_)
              refine v0 (k := ?_)
              refine v0 (k := ?_)
              refine b0 (k1 := fun hb6 => ?_) (k0 := fun hb6 => ?_)
              · replace hb6 := hB.h {} hb6
                try rw [eqI] at hb6
                refine w0 (k := ?_)
                refine w0 (k := ?_)
                refine w0 (k := ?_)
                refine rb 67 true (h := by (first | exact hdt _ | (simp only [hpd]; done) | exact decide_eq_true (by omega))) (k := ?_)
                refine v0 (k := ?_)
                refine v0 (k := ?_)
                refine w0 (k := ?_)
                refine w0 (k := ?_)
                refine w0 (k := ?_)
                refine b0 (k1 := fun hb7 => ?_) (k0 := fun hb7 => ?_)
                · replace hb7 := hB.h {} hb7
                  try rw [eqI] at hb7
                  refine x0 (k := ?_)
                  refine x0 (k := ?_)
                  refine x0 (k := ?_)
                  refine x0 (k := ?_)
                  refine w0 (k := ?_)
                  refine v0 (k := ?_)
                  refine nil0 ?_
                  repeat refine gwp_seq ?_
                  refine cT (k := ?_)
                  repeat refine gwp_seq ?_
                  refine gwp_region ?_
                  refine v0 (k := ?_)
                  refine v0 (k := ?_)
                  refine v0 (k := ?_)
                  refine nil0 ?_
                  refine cl [0, 1, 2, 3, 4, 7, 8, 9, 15, 16, 17] (k := ?_)
                  repeat refine gwp_seq ?_
                  refine gwp_region ?_
                  refine v1 (hc := kLga1.h {}) (k := ?_)
                  refine v0 (k := ?_)
                  refine nil0 ?_
                  refine lend [0, 1, 2, 3, 4, 7, 8, 9, 15, 16, 17] (h := ?_) (hV := ?_) (n' := f.ps.length - (k + 1))
                  · omega
                  first
                  | exact ⟨k + 1, by omega, rfl, sgE (by rw [z_f1 hp (by assumption)]; rfl) rfl⟩
                  | exact ⟨k + 1, by omega, rfl, sgE (by rw [z_f2 hp (by omega)]; rfl) rfl⟩
                  | exact ⟨k + 1, by omega, rfl, sgE (by rw [z_t hp (by assumption) (by omega), nx_snoc, nxF, if_pos (by omega)]; rfl) rfl⟩
                  | exact ⟨k + 1, by omega, rfl, sgE (by rw [z_t hp (by assumption) (by omega), nx_snoc, nxF, if_neg (by omega)]; rfl) rfl⟩
                · replace hb7 := hB.h {} hb7
                  try rw [eqI] at hb7
                  refine w0 (k := ?_)
                  refine w0 (k := ?_)
                  refine w0 (k := ?_)
                  refine w0 (k := ?_)
                  refine w0 (k := ?_)
                  refine v0 (k := ?_)
                  refine nil0 ?_
                  repeat refine gwp_seq ?_
                  refine cB (k1 := fun hb8 => ?_) (k0 := fun hb8 => ?_)
                  · replace hb8 := hB.h {} hb8
                    try rw [eqI] at hb8
                    repeat refine gwp_seq ?_
                    refine gwp_region ?_
                    refine v0 (k := ?_)
                    refine v0 (k := ?_)
                    refine v0 (k := ?_)
                    refine nil0 ?_
                    refine cl [0, 1, 2, 3, 4, 7, 8, 9, 15, 16, 17] (k := ?_)
                    repeat refine gwp_seq ?_
                    refine gwp_region ?_
                    refine v1 (hc := kLga1.h {}) (k := ?_)
                    refine v0 (k := ?_)
                    refine nil0 ?_
                    refine lend [0, 1, 2, 3, 4, 7, 8, 9, 15, 16, 17] (h := ?_) (hV := ?_) (n' := f.ps.length - (k + 1))
                    · omega
                    first
                    | exact ⟨k + 1, by omega, rfl, sgE (by rw [z_f1 hp (by assumption)]; rfl) rfl⟩
                    | exact ⟨k + 1, by omega, rfl, sgE (by rw [z_f2 hp (by omega)]; rfl) rfl⟩
                    | exact ⟨k + 1, by omega, rfl, sgE (by rw [z_t hp (by assumption) (by omega), nx_snoc, nxF, if_pos (by omega)]; rfl) rfl⟩
                    | exact ⟨k + 1, by omega, rfl, sgE (by rw [z_t hp (by assumption) (by omega), nx_snoc, nxF, if_neg (by omega)]; rfl) rfl⟩
                  · replace hb8 := hB.h {} hb8
                    try rw [eqI] at hb8
                    repeat refine gwp_seq ?_
                    refine gwp_skip ?_
                    refine cl [0, 1, 2, 3, 4, 7, 8, 9, 15, 16, 17] (k := ?_)
                    repeat refine gwp_seq ?_
                    refine gwp_region ?_
                    refine v1 (hc := kLga1.h {}) (k := ?_)
                    refine v0 (k := ?_)
                    refine nil0 ?_
                    refine lend [0, 1, 2, 3, 4, 7, 8, 9, 15, 16, 17] (h := ?_) (hV := ?_) (n' := f.ps.length - (k + 1))
                    · omega
                    first
                    | exact ⟨k + 1, by omega, rfl, sgE (by rw [z_f1 hp (by assumption)]; rfl) rfl⟩
                    | exact ⟨k + 1, by omega, rfl, sgE (by rw [z_f2 hp (by omega)]; rfl) rfl⟩
                    | exact ⟨k + 1, by omega, rfl, sgE (by rw [z_t hp (by assumption) (by omega), nx_snoc, nxF, if_pos (by omega)]; rfl) rfl⟩
                    | exact ⟨k + 1, by omega, rfl, sgE (by rw [z_t hp (by assumption) (by omega), nx_snoc, nxF, if_neg (by omega)]; rfl) rfl⟩
              · replace hb6 := hB.h {} hb6
                try rw [eqI] at hb6
                refine x0 (k := ?_)
                refine x0 (k := ?_)
                refine x0 (k := ?_)
                refine v0 (k := ?_)
                refine v0 (k := ?_)
                refine x0 (k := ?_)
                refine x0 (k := ?_)
                refine x0 (k := ?_)
                refine x1 (k := ?_)
                refine x1 (k := ?_)
                refine x1 (k := ?_)
                refine x1 (k := ?_)
                refine x0 (k := ?_)
                refine v0 (k := ?_)
                refine nil0 ?_
                repeat refine gwp_seq ?_
                refine cF (k := ?_)
                repeat refine gwp_seq ?_
                refine gwp_skip ?_
                refine cl [0, 1, 2, 3, 4, 7, 8, 9, 15, 16, 17] (k := ?_)
                repeat refine gwp_seq ?_
                refine gwp_region ?_
                refine v1 (hc := kLga1.h {}) (k := ?_)
                refine v0 (k := ?_)
                refine nil0 ?_
                refine lend [0, 1, 2, 3, 4, 7, 8, 9, 15, 16, 17] (h := ?_) (hV := ?_) (n' := f.ps.length - (k + 1))
                · omega
                first
                | exact ⟨k + 1, by omega, rfl, sgE (by rw [z_f1 hp (by assumption)]; rfl) rfl⟩
                | exact ⟨k + 1, by omega, rfl, sgE (by rw [z_f2 hp (by omega)]; rfl) rfl⟩
                | exact ⟨k + 1, by omega, rfl, sgE (by rw [z_t hp (by assumption) (by omega), nx_snoc, nxF, if_pos (by omega)]; rfl) rfl⟩
                | exact ⟨k + 1, by omega, rfl, sgE (by rw [z_t hp (by assumption) (by omega), nx_snoc, nxF, if_neg (by omega)]; rfl) rfl⟩
  · replace hb1 := hB.h {} hb1
    try rw [eqI] at hb1
    repeat refine gwp_seq ?_
    refine gwp_exit ?_
    repeat (first | refine gthen_exit ?_ | refine gnoGoto_exit ?_ | refine gblock_here ?_ | refine gblock_out rfl ?_)
    refine cl [0, 1, 2, 3, 4, 7, 9] (k := ?_)
    repeat refine gwp_seq ?_
    obtain rfl : k = f.ps.length := by omega
    have hnx := nx_cases (l := (daysN f.ps (atN f u v &&& s) f.ps.length)) (fun y hy => (days_mem hv hy).1) (la + f.gp)
    refine gwp_region ?_
    refine v0 (k := ?_)
    refine v0 (k := ?_)
    refine v0 (k := ?_)
    refine nil0 ?_
    repeat refine gwp_seq ?_
    refine cB (k1 := fun hb9 => ?_) (k0 := fun hb9 => ?_)
    · replace hb9 := hB.h {} hb9
      try rw [eqI] at hb9
      repeat refine gwp_seq ?_
      obtain rfl : c = 0 := hg0 (by omega)
      refine gwp_region ?_
      refine v0 (k := ?_)
      refine v0 (k := ?_)
      refine v0 (k := ?_)
      refine v0 (k := ?_)
      refine nil0 ?_
      refine cl [0, 1, 2, 3, 4, 7, 86, 87, 88] (k := ?_)
      repeat refine gwp_seq ?_
      refine gwp_block ?_
      repeat refine gwp_seq ?_
      refine gc_loop (fun mz σ => ∃ k : Nat, (k ≤ f.ps.length) ∧ mz = f.ps.length - k ∧ σ = (sg [(0, .p (.int .i64 (s : Nat))), (1, .ptr [.p (.list (f.ps.map pS)), .p (.int .i64 f.el), .p (.int .i64 f.eh), .p (.int .i64 f.nl), .p (.int .i64 f.nh), .p (.int .i64 f.dl), .p (.int .i64 f.dh), .p (.int .i64 f.dep), .p (.int .i64 f.tm), .p (.int .i64 f.gp)]), (2, .ptr [.p (.int .i64 (usedN f f.ps.length : Nat))]), (3, .ptr [.p (.int .i64 u)]), (4, .ptr [.p (.int .i64 v)]), (7, .p (.int .i64 ((daysN f.ps (atN f u v &&& s) k).length : Nat))), (86, .p (.list (f.ps.map pS))), (87, .p (.int .i64 (f.ps.length : Nat))), (88, .p (.int .i64 (k : Nat)))] [] A [] : Sg E)) ?_ (fun mz σ hI => ?_)
      · refine lbeg [0, 1, 2, 3, 4, 7, 86, 87, 88] (hV := ?_)
        exact ⟨_, 0, by omega, rfl, rfl⟩
      obtain ⟨k, hk, hnn2, rfl⟩ := hI
      repeat refine gwp_seq ?_
      refine gwp_region ?_
      refine v0 (k := ?_)
      refine nil0 ?_
      repeat refine gwp_seq ?_
      refine cB (k1 := fun hb10 => ?_) (k0 := fun hb10 => ?_)
      · replace hb10 := hB.h {} hb10
        try rw [eqI] at hb10
        repeat refine gwp_seq ?_
        refine gwp_skip ?_
        refine cl [0, 1, 2, 3, 4, 7, 86, 87, 88] (k := ?_)
        repeat refine gwp_seq ?_
        refine gwp_block ?_
        repeat refine gwp_seq ?_
        obtain ⟨p, hp⟩ := getE (l := f.ps) (k := k) (by omega)
        have f20 := shr_b (s &&& usedN f f.ps.length) k (by omega)
        have f21 := and_b (s &&& usedN f f.ps.length) k (by omega)
        have hdl := days_len f.ps (atN f u v &&& s) k
        refine gwp_region ?_
        refine v0 (k := ?_)
        refine v1 (hc := kLga1.h {}) (k := ?_)
        refine v0 (k := ?_)
        refine n1 230 false (hc := kLga1.h {}) (k := ?_)
        refine v0 (k := ?_)
        refine s1 (hc := kLga1.h {}) (k := ?_)
        refine nil0 ?_
        refine cl [0, 1, 2, 3, 4, 7, 12, 13, 86, 87, 88] (k := ?_)
        repeat refine gwp_seq ?_
        rcases hbk : (s &&& usedN f f.ps.length).testBit k with _ | _
        · have f1 := bitN_f hbk
          repeat refine gwp_seq ?_
          refine gwp_region ?_
          refine v0 (k := ?_)
          refine v0 (k := ?_)
          refine v0 (k := ?_)
          refine v0 (k := ?_)
          refine v1 (hc := kLga1.h {}) (k := ?_)
          refine v0 (k := ?_)
          refine v0 (k := ?_)
          refine rb 99 false (h := by (rfl)) (k := ?_)
          refine v0 (k := ?_)
          refine x0 (k := ?_)
          refine x0 (k := ?_)
          refine x0 (k := ?_)
          refine x0 (k := ?_)
          refine x0 (k := ?_)
          refine v0 (k := ?_)
          refine v0 (k := ?_)
          refine x0 (k := ?_)
          refine x0 (k := ?_)
          refine x0 (k := ?_)
          refine x0 (k := ?_)
          refine x0 (k := ?_)
          refine v0 (k := ?_)
          refine v0 (k := ?_)
          refine x0 (k := ?_)
          refine x0 (k := ?_)
          refine x0 (k := ?_)
          refine x0 (k := ?_)
          refine x0 (k := ?_)
          refine v0 (k := ?_)
          refine v0 (k := ?_)
          refine x0 (k := ?_)
          refine x0 (k := ?_)
          refine x0 (k := ?_)
          refine x0 (k := ?_)
          refine x0 (k := ?_)
          refine v0 (k := ?_)
          refine nil0 ?_
          repeat refine gwp_seq ?_
          refine cF (k := ?_)
          repeat refine gwp_seq ?_
          refine gwp_skip ?_
          refine cl [0, 1, 2, 3, 4, 7, 86, 87, 88] (k := ?_)
          repeat refine gwp_seq ?_
          refine gwp_region ?_
          refine v1 (hc := kLga1.h {}) (k := ?_)
          refine v0 (k := ?_)
          refine nil0 ?_
          refine lend [0, 1, 2, 3, 4, 7, 86, 87, 88] (h := ?_) (hV := ?_) (n' := f.ps.length - (k + 1))
          · omega
          first
          | exact ⟨k + 1, by omega, rfl, sgE (by rw [z_f1 hp (by assumption)]; rfl) rfl⟩
          | exact ⟨k + 1, by omega, rfl, sgE (by rw [z_f2 hp (by omega)]; rfl) rfl⟩
          | exact ⟨k + 1, by omega, rfl, sgE (by rw [z_t hp (by assumption) (by omega), List.length_append]; rfl) rfl⟩
        · have f1 := bitN_t hbk
          repeat refine gwp_seq ?_
          refine gwp_region ?_
          refine v0 (k := ?_)
          refine v0 (k := ?_)
          refine v0 (k := ?_)
          refine v0 (k := ?_)
          refine v1 (hc := kLga1.h {}) (k := ?_)
          refine v0 (k := ?_)
          refine v0 (k := ?_)
          refine rb 99 true (h := by (rfl)) (k := ?_)
          refine v0 (k := ?_)
          refine w0 (k := ?_)
          refine w0 (k := ?_)
          refine w0 (k := ?_)
          refine w0 (k := ?_)
          refine w0 (k := ?_)
          refine v0 (k := ?_)
          refine v0 (k := ?_)
          refine b0 (k1 := fun hb11 => ?_) (k0 := fun hb11 => ?_)
          · replace hb11 := hB.h {} hb11
            try rw [eqI] at hb11
            refine w0 (k := ?_)
            refine w0 (k := ?_)
            refine w0 (k := ?_)
            refine w0 (k := ?_)
            refine w0 (k := ?_)
            refine v0 (k := ?_)
            refine v0 (k := ?_)
            refine b0 (k1 := fun hb12 => ?_) (k0 := fun hb12 => ?_)
            · replace hb12 := hB.h {} hb12
              try rw [eqI] at hb12
              refine w0 (k := ?_)
              refine w0 (k := ?_)
              refine w0 (k := ?_)
              refine w0 (k := ?_)
              refine w0 (k := ?_)
              refine v0 (k := ?_)
              refine v0 (k := ?_)
              refine b0 (k1 := fun hb13 => ?_) (k0 := fun hb13 => ?_)
              · replace hb13 := hB.h {} hb13
                try rw [eqI] at hb13
                refine w0 (k := ?_)
                refine w0 (k := ?_)
                refine w0 (k := ?_)
                refine w0 (k := ?_)
                refine w0 (k := ?_)
                refine v0 (k := ?_)
                refine nil0 ?_
                repeat refine gwp_seq ?_
                refine cB (k1 := fun hb14 => ?_) (k0 := fun hb14 => ?_)
                · replace hb14 := hB.h {} hb14
                  try rw [eqI] at hb14
                  repeat refine gwp_seq ?_
                  refine gwp_region ?_
                  refine v0 (k := ?_)
                  refine v1 (hc := kLga1.h {}) (k := ?_)
                  refine v0 (k := ?_)
                  refine nil0 ?_
                  refine cl [0, 1, 2, 3, 4, 7, 86, 87, 88] (k := ?_)
                  repeat refine gwp_seq ?_
                  refine gwp_region ?_
                  refine v1 (hc := kLga1.h {}) (k := ?_)
                  refine v0 (k := ?_)
                  refine nil0 ?_
                  refine lend [0, 1, 2, 3, 4, 7, 86, 87, 88] (h := ?_) (hV := ?_) (n' := f.ps.length - (k + 1))
                  · omega
                  first
                  | exact ⟨k + 1, by omega, rfl, sgE (by rw [z_f1 hp (by assumption)]; rfl) rfl⟩
                  | exact ⟨k + 1, by omega, rfl, sgE (by rw [z_f2 hp (by omega)]; rfl) rfl⟩
                  | exact ⟨k + 1, by omega, rfl, sgE (by rw [z_t hp (by assumption) (by omega), List.length_append]; rfl) rfl⟩
                · replace hb14 := hB.h {} hb14
                  try rw [eqI] at hb14
                  repeat refine gwp_seq ?_
                  refine gwp_skip ?_
                  refine cl [0, 1, 2, 3, 4, 7, 86, 87, 88] (k := ?_)
                  repeat refine gwp_seq ?_
                  refine gwp_region ?_
                  refine v1 (hc := kLga1.h {}) (k := ?_)
                  refine v0 (k := ?_)
                  refine nil0 ?_
                  refine lend [0, 1, 2, 3, 4, 7, 86, 87, 88] (h := ?_) (hV := ?_) (n' := f.ps.length - (k + 1))
                  · omega
                  first
                  | exact ⟨k + 1, by omega, rfl, sgE (by rw [z_f1 hp (by assumption)]; rfl) rfl⟩
                  | exact ⟨k + 1, by omega, rfl, sgE (by rw [z_f2 hp (by omega)]; rfl) rfl⟩
                  | exact ⟨k + 1, by omega, rfl, sgE (by rw [z_t hp (by assumption) (by omega), List.length_append]; rfl) rfl⟩
              · replace hb13 := hB.h {} hb13
                try rw [eqI] at hb13
                refine x0 (k := ?_)
                refine x0 (k := ?_)
                refine x0 (k := ?_)
                refine x0 (k := ?_)
                refine x0 (k := ?_)
                refine v0 (k := ?_)
                refine nil0 ?_
                repeat refine gwp_seq ?_
                refine cF (k := ?_)
                repeat refine gwp_seq ?_
                refine gwp_skip ?_
                refine cl [0, 1, 2, 3, 4, 7, 86, 87, 88] (k := ?_)
                repeat refine gwp_seq ?_
                refine gwp_region ?_
                refine v1 (hc := kLga1.h {}) (k := ?_)
                refine v0 (k := ?_)
                refine nil0 ?_
                refine lend [0, 1, 2, 3, 4, 7, 86, 87, 88] (h := ?_) (hV := ?_) (n' := f.ps.length - (k + 1))
                · omega
                first
                | exact ⟨k + 1, by omega, rfl, sgE (by rw [z_f1 hp (by assumption)]; rfl) rfl⟩
                | exact ⟨k + 1, by omega, rfl, sgE (by rw [z_f2 hp (by omega)]; rfl) rfl⟩
                | exact ⟨k + 1, by omega, rfl, sgE (by rw [z_t hp (by assumption) (by omega), List.length_append]; rfl) rfl⟩
            · replace hb12 := hB.h {} hb12
              try rw [eqI] at hb12
              refine x0 (k := ?_)
              refine x0 (k := ?_)
              refine x0 (k := ?_)
              refine x0 (k := ?_)
              refine x0 (k := ?_)
              refine v0 (k := ?_)
              refine v0 (k := ?_)
              refine x0 (k := ?_)
              refine x0 (k := ?_)
              refine x0 (k := ?_)
              refine x0 (k := ?_)
              refine x0 (k := ?_)
              refine v0 (k := ?_)
              refine nil0 ?_
              repeat refine gwp_seq ?_
              refine cF (k := ?_)
              repeat refine gwp_seq ?_
              refine gwp_skip ?_
              refine cl [0, 1, 2, 3, 4, 7, 86, 87, 88] (k := ?_)
              repeat refine gwp_seq ?_
              refine gwp_region ?_
              refine v1 (hc := kLga1.h {}) (k := ?_)
              refine v0 (k := ?_)
              refine nil0 ?_
              refine lend [0, 1, 2, 3, 4, 7, 86, 87, 88] (h := ?_) (hV := ?_) (n' := f.ps.length - (k + 1))
              · omega
              first
              | exact ⟨k + 1, by omega, rfl, sgE (by rw [z_f1 hp (by assumption)]; rfl) rfl⟩
              | exact ⟨k + 1, by omega, rfl, sgE (by rw [z_f2 hp (by omega)]; rfl) rfl⟩
              | exact ⟨k + 1, by omega, rfl, sgE (by rw [z_t hp (by assumption) (by omega), List.length_append]; rfl) rfl⟩
          · replace hb11 := hB.h {} hb11
            try rw [eqI] at hb11
            refine x0 (k := ?_)
            refine x0 (k := ?_)
            refine x0 (k := ?_)
            refine x0 (k := ?_)
            refine x0 (k := ?_)
            refine v0 (k := ?_)
            refine v0 (k := ?_)
            refine x0 (k := ?_)
            refine x0 (k := ?_)
            refine x0 (k := ?_)
            refine x0 (k := ?_)
            refine x0 (k := ?_)
            refine v0 (k := ?_)
            refine v0 (k := ?_)
            refine x0 (k := ?_)
            refine x0 (k := ?_)
            refine x0 (k := ?_)
            refine x0 (k := ?_)
            refine x0 (k := ?_)
            refine v0 (k := ?_)
            refine nil0 ?_
            repeat refine gwp_seq ?_
            refine cF (k := ?_)
            repeat refine gwp_seq ?_
            refine gwp_skip ?_
            refine cl [0, 1, 2, 3, 4, 7, 86, 87, 88] (k := ?_)
            repeat refine gwp_seq ?_
            refine gwp_region ?_
            refine v1 (hc := kLga1.h {}) (k := ?_)
            refine v0 (k := ?_)
            refine nil0 ?_
            refine lend [0, 1, 2, 3, 4, 7, 86, 87, 88] (h := ?_) (hV := ?_) (n' := f.ps.length - (k + 1))
            · omega
            first
            | exact ⟨k + 1, by omega, rfl, sgE (by rw [z_f1 hp (by assumption)]; rfl) rfl⟩
            | exact ⟨k + 1, by omega, rfl, sgE (by rw [z_f2 hp (by omega)]; rfl) rfl⟩
            | exact ⟨k + 1, by omega, rfl, sgE (by rw [z_t hp (by assumption) (by omega), List.length_append]; rfl) rfl⟩
      · replace hb10 := hB.h {} hb10
        try rw [eqI] at hb10
        repeat refine gwp_seq ?_
        refine gwp_exit ?_
        repeat (first | refine gthen_exit ?_ | refine gnoGoto_exit ?_ | refine gblock_here ?_ | refine gblock_out rfl ?_)
        refine cl [1, 7] (k := ?_)
        repeat refine gwp_seq ?_
        obtain rfl : k = f.ps.length := by omega
        refine gwp_region ?_
        refine v0 (k := ?_)
        refine v0 (k := ?_)
        refine v0 (k := ?_)
        refine v0 (k := ?_)
        refine v0 (k := ?_)
        refine nil0 ?_
        repeat refine gwp_seq ?_
        refine gwp_ret ?_
        repeat (first | refine gthen_ret ?_ | refine gblock_ret ?_ | refine gnoGoto_ret ?_)
        refine fin_ret ?_
        refine fp (hR := ?_)
        first
        | (rw [serv_zero hv _ (by omega)]; done)
        | (rw [serv_grL hv, ← hcg, grL_none (fun y hy => by have h9 := (sortI_perm _).mem_iff.1 hy; rcases hnx with ⟨_, h8⟩ | ⟨h8, _⟩; have := h8 y h9; omega; omega)]; rfl)
    · replace hb9 := hB.h {} hb9
      try rw [eqI] at hb9
      repeat refine gwp_seq ?_
      refine gwp_skip ?_
      refine cl [0, 1, 2, 3, 4, 7, 9] (k := ?_)
      repeat refine gwp_seq ?_
      refine gwp_region ?_
      refine v0 (k := ?_)
      refine v0 (k := ?_)
      refine nil0 ?_
      repeat refine gwp_seq ?_
      refine cB (k1 := fun hb15 => ?_) (k0 := fun hb15 => ?_)
      · replace hb15 := hB.h {} hb15
        try rw [eqI] at hb15
        repeat refine gwp_seq ?_
        refine gwp_region ?_
        refine v0 (k := ?_)
        refine v0 (k := ?_)
        refine v0 (k := ?_)
        refine v0 (k := ?_)
        refine v0 (k := ?_)
        refine nil0 ?_
        repeat refine gwp_seq ?_
        refine gwp_ret ?_
        repeat (first | refine gthen_ret ?_ | refine gblock_ret ?_ | refine gnoGoto_ret ?_)
        refine fin_ret ?_
        refine fp (hR := ?_)
        first
        | (rw [serv_zero hv _ (by omega)]; done)
        | (rw [serv_grL hv, ← hcg, grL_none (fun y hy => by have h9 := (sortI_perm _).mem_iff.1 hy; rcases hnx with ⟨_, h8⟩ | ⟨h8, _⟩; have := h8 y h9; omega; omega)]; rfl)
      · replace hb15 := hB.h {} hb15
        try rw [eqI] at hb15
        repeat refine gwp_seq ?_
        refine gwp_skip ?_
        refine cl [0, 1, 2, 3, 4, 7, 9] (k := ?_)
        repeat refine gwp_seq ?_
        obtain ⟨h8, h9, h10, h11⟩ : 0 ≤ nxD (daysN f.ps (atN f u v &&& s) f.ps.length) (la + f.gp) ∧ nxD (daysN f.ps (atN f u v &&& s) f.ps.length) (la + f.gp) ∈ (daysN f.ps (atN f u v &&& s) f.ps.length) ∧ la + f.gp ≤ nxD (daysN f.ps (atN f u v &&& s) f.ps.length) (la + f.gp) ∧ ∀ y ∈ (daysN f.ps (atN f u v &&& s) f.ps.length), la + f.gp ≤ y → nxD (daysN f.ps (atN f u v &&& s) f.ps.length) (la + f.gp) ≤ y := by rcases hnx with h | h; omega; exact h
        have hgn := grL_next (gap := f.gp) (x := la) (by omega) (sortI_sorted (daysN f.ps (atN f u v &&& s) f.ps.length)) ((sortI_perm _).mem_iff.2 h9) (by omega) (fun y hy hh => h11 y ((sortI_perm _).mem_iff.1 hy) (by omega))
        have h12 := days_mem hv h9
        have hgl := grL_le f.gp (-65537) (sortI (daysN f.ps (atN f u v &&& s) f.ps.length))
        have hgd := days_len f.ps (atN f u v &&& s) f.ps.length
        rw [sortI_len] at hgl
        clear hnx h9 h11
        refine gwp_region ?_
        refine v0 (k := ?_)
        refine v1 (hc := kLga1.h {}) (k := ?_)
        refine v0 (k := ?_)
        refine v0 (k := ?_)
        refine v0 (k := ?_)
        refine nil0 ?_
        repeat refine gblock_normal ?_
        refine lend [0, 1, 2, 3, 4, 7, 8] (h := ?_) (hV := ?_) (n' := grL f.gp (nxD (daysN f.ps (atN f u v &&& s) f.ps.length) (la + f.gp)) (sortI (daysN f.ps (atN f u v &&& s) f.ps.length)))
        · omega
        exact ⟨c + 1, _, by omega, by omega, by omega, rfl, rfl⟩
end Go.Proofs.Ytabeeaiilanmjaa

/- The statement CoverFinds. -/
namespace Go.Proofs.Ytabeeaiilanmjaa
open Go.Gh
set_option maxRecDepth 100000
set_option maxHeartbeats 4000000
structure kLg1 (c : Prop) : Prop where
  h : c := by (first | exact True.intro | omega | (simp only [inI]; omega) | (simp [P.size, pS, all_int, allOne_p, goods_p, allOne, goods, good, G.one, P.one, P.cells] <;> first | omega | assumption | simp_all))
theorem tmod_in {a : Nat} {m : Int} (h : 0 ≤ m) : 0 ≤ (a : Int).tmod (m + 1) ∧ (a : Int).tmod (m + 1) ≤ m := by
  have h1 := Int.tmod_nonneg (m + 1) (show (0 : Int) ≤ (a : Int) by omega)
  have h2 := Int.tmod_lt_of_pos (a : Int) (show 0 < m + 1 by omega)
  omega
theorem list_at {f : Fd} {s : Nat} (h : listQ f s = true) {x y : Int} (hx : f.el ≤ x ∧ x ≤ f.eh) (hy : f.nl ≤ y ∧ y ≤ f.nh) : servQ f (atN f x y &&& s) = true := List.all_eq_true.1 h (x, y) (mem_pls hx hy)
theorem ent5 : Enters Try.prog 5 := Enters.mk Try.func5 (by kernel_rfl) rfl
theorem l_find_x (f : Fd) (a c b : Nat) (ha : a ≤ 255) (hc : c ≤ 255) (hb : b ≤ 65535) (hh : hvyQ f 12 300 = true) : PSpec Try.prog 5 [.agg [.list (f.ps.map pS), .int .i64 f.el, .int .i64 f.eh, .int .i64 f.nl, .int .i64 f.nh, .int .i64 f.dl, .int .i64 f.dh, .int .i64 f.dep, .int .i64 f.tm, .int .i64 f.gp], .int .u8 (a : Nat), .int .u8 (c : Nat), .int .u16 (b : Nat)] (.ok (.bool true)) := by
  refine pspec_of Try.func5 (rfl : Try.f5.body = some _) rfl ?_
  intro E A C hN hL
  replace hN : C.N = 134 := hN
  simp only [Gh.num, List.map_cons, List.map_nil, Nat.reduceAdd]
  have hdt : ∀ (i : Decidable True), @decide True i = true := fun i => decide_eq_true trivial
  have hdf : ∀ (i : Decidable False), @decide False i = false := fun i => decide_eq_false id
  have hbt : (true == true) = true := rfl
  have hbf : (false == false) = true := rfl
  have htf : (true == false) = false := rfl
  have hft : (false == true) = false := rfl
  have hpS : ∀ p : Sk, pS p = P.agg [.int .i64 p.el, .int .i64 p.eh, .int .i64 p.nl, .int .i64 p.nh, .int .i64 p.day, .int .i64 p.dep] := fun _ => rfl
  repeat refine gwp_seq ?_
  refine gwp_region ?_
  refine n1 140 false (hc := kLg1.h {}) (k := ?_)
  refine v0 (k := ?_)
  refine nil0 ?_
  refine cl [1, 2, 3, 4] (k := ?_)
  repeat refine gwp_seq ?_
  · repeat refine gwp_seq ?_
    refine gwp_region ?_
    refine v0 (k := ?_)
    refine pc0 (spec := l_heavy f 12 300) (hent := ent12) (k := ?_)
    refine rb 20 true (h := by (exact hh)) (k := ?_)
    refine v0 (k := ?_)
    refine x0 (k := ?_)
    refine x0 (k := ?_)
    refine x0 (k := ?_)
    refine v0 (k := ?_)
    refine rb 25 true (h := by (rfl)) (k := ?_)
    refine nil0 ?_
    repeat refine gwp_seq ?_
    refine cT (k := ?_)
    repeat refine gwp_seq ?_
    refine gwp_region ?_
    refine pc0 (spec := l_awake) (hent := ent13) (k := ?_)
    refine v0 (k := ?_)
    refine nil0 ?_
    repeat refine gwp_seq ?_
    refine gwp_ret ?_
    repeat (first | refine gthen_ret ?_ | refine gblock_ret ?_ | refine gnoGoto_ret ?_)
    refine fin_ret ?_
    refine fp (hR := ?_)
    rfl
theorem l_find_a (f : Fd) (a c b : Nat) (ha : a ≤ 255) (hc : c ≤ 255) (hb : b ≤ 65535) (hh : hvyQ f 12 300 = false) (hv : f.valid = false) : PSpec Try.prog 5 [.agg [.list (f.ps.map pS), .int .i64 f.el, .int .i64 f.eh, .int .i64 f.nl, .int .i64 f.nh, .int .i64 f.dl, .int .i64 f.dh, .int .i64 f.dep, .int .i64 f.tm, .int .i64 f.gp], .int .u8 (a : Nat), .int .u8 (c : Nat), .int .u16 (b : Nat)] (.ok (.bool true)) := by
  refine pspec_of Try.func5 (rfl : Try.f5.body = some _) rfl ?_
  intro E A C hN hL
  replace hN : C.N = 134 := hN
  simp only [Gh.num, List.map_cons, List.map_nil, Nat.reduceAdd]
  have hdt : ∀ (i : Decidable True), @decide True i = true := fun i => decide_eq_true trivial
  have hdf : ∀ (i : Decidable False), @decide False i = false := fun i => decide_eq_false id
  have hbt : (true == true) = true := rfl
  have hbf : (false == false) = true := rfl
  have htf : (true == false) = false := rfl
  have hft : (false == true) = false := rfl
  have hpS : ∀ p : Sk, pS p = P.agg [.int .i64 p.el, .int .i64 p.eh, .int .i64 p.nl, .int .i64 p.nh, .int .i64 p.day, .int .i64 p.dep] := fun _ => rfl
  repeat refine gwp_seq ?_
  refine gwp_region ?_
  refine n1 140 false (hc := kLg1.h {}) (k := ?_)
  refine v0 (k := ?_)
  refine nil0 ?_
  refine cl [1, 2, 3, 4] (k := ?_)
  repeat refine gwp_seq ?_
  have hl : f.ps.length ≤ 1048576 := by have := hvy_len hh; omega
  · repeat refine gwp_seq ?_
    refine gwp_region ?_
    refine v0 (k := ?_)
    refine pc0 (spec := l_heavy f 12 300) (hent := ent12) (k := ?_)
    refine rb 20 false (h := by (exact hh)) (k := ?_)
    refine v0 (k := ?_)
    refine w0 (k := ?_)
    refine pcw (spec := r_field f hl) (hent := ent29) (k := ?_)
    refine w0 (k := ?_)
    refine rb 24 true (h := by (rfl)) (k := ?_)
    refine v0 (k := ?_)
    refine rb 25 true (h := by (rfl)) (k := ?_)
    refine nil0 ?_
    repeat refine gwp_seq ?_
    refine cT (k := ?_)
    repeat refine gwp_seq ?_
    refine gwp_region ?_
    refine pc0 (spec := l_awake) (hent := ent13) (k := ?_)
    refine v0 (k := ?_)
    refine nil0 ?_
    repeat refine gwp_seq ?_
    refine gwp_ret ?_
    repeat (first | refine gthen_ret ?_ | refine gblock_ret ?_ | refine gnoGoto_ret ?_)
    refine fin_ret ?_
    refine fp (hR := ?_)
    rfl
theorem l_find_b (f : Fd) (a c b : Nat) (ha : a ≤ 255) (hc : c ≤ 255) (hb : b ≤ 65535) (hh : hvyQ f 12 300 = false) (hv : f.valid = true) (hw : (setsL f).find? (listQ f) = none) : PSpec Try.prog 5 [.agg [.list (f.ps.map pS), .int .i64 f.el, .int .i64 f.eh, .int .i64 f.nl, .int .i64 f.nh, .int .i64 f.dl, .int .i64 f.dh, .int .i64 f.dep, .int .i64 f.tm, .int .i64 f.gp], .int .u8 (a : Nat), .int .u8 (c : Nat), .int .u16 (b : Nat)] (.ok (.bool true)) := by
  refine pspec_of Try.func5 (rfl : Try.f5.body = some _) rfl ?_
  intro E A C hN hL
  replace hN : C.N = 134 := hN
  simp only [Gh.num, List.map_cons, List.map_nil, Nat.reduceAdd]
  have hdt : ∀ (i : Decidable True), @decide True i = true := fun i => decide_eq_true trivial
  have hdf : ∀ (i : Decidable False), @decide False i = false := fun i => decide_eq_false id
  have hbt : (true == true) = true := rfl
  have hbf : (false == false) = true := rfl
  have htf : (true == false) = false := rfl
  have hft : (false == true) = false := rfl
  have hpS : ∀ p : Sk, pS p = P.agg [.int .i64 p.el, .int .i64 p.eh, .int .i64 p.nl, .int .i64 p.nh, .int .i64 p.day, .int .i64 p.dep] := fun _ => rfl
  repeat refine gwp_seq ?_
  refine gwp_region ?_
  refine n1 140 false (hc := kLg1.h {}) (k := ?_)
  refine v0 (k := ?_)
  refine nil0 ?_
  refine cl [1, 2, 3, 4] (k := ?_)
  repeat refine gwp_seq ?_
  have hl : f.ps.length ≤ 1048576 := by have := hvy_len hh; omega
  have hn := valid_num hv
  have hpos := Nat.two_pow_pos f.ps.length
  have h62 : 2 ^ f.ps.length ≤ 2 ^ 12 := Nat.pow_le_pow_right (by omega) (by omega)
  have hal := allS_i f.ps.length
  have hal1 := Int.le_of_eq hal
  have hal2 := Int.le_of_eq hal.symm
  have hs12 := allS_lt (n := f.ps.length) (by omega)
  have hsh := shl_b f.ps.length (by omega)
  have hU := used_lt2 f
  have hU0 := shr_z (show f.ps.length ≤ 60 by omega) hU
  have hxl : (b &&& allS f.ps.length) < 2 ^ f.ps.length := Nat.lt_of_le_of_lt Nat.and_le_right in_lt
  have hand := bitop_and_i64 b (allS f.ps.length) (by omega) (by omega)
  · repeat refine gwp_seq ?_
    refine gwp_region ?_
    refine v0 (k := ?_)
    refine pc0 (spec := l_heavy f 12 300) (hent := ent12) (k := ?_)
    refine rb 20 false (h := by (exact hh)) (k := ?_)
    refine v0 (k := ?_)
    refine w0 (k := ?_)
    refine pcw (spec := r_field f hl) (hent := ent29) (k := ?_)
    refine w0 (k := ?_)
    refine rb 24 false (h := by (rfl)) (k := ?_)
    refine v0 (k := ?_)
    refine rb 25 false (h := by (rfl)) (k := ?_)
    refine nil0 ?_
    repeat refine gwp_seq ?_
    refine cF (k := ?_)
    repeat refine gwp_seq ?_
    refine gwp_skip ?_
    refine cl [1, 2, 3, 4] (k := ?_)
    repeat refine gwp_seq ?_
    obtain ⟨i, hi, hi2⟩ : ∃ i : Int, (a : Int).tmod (f.eh - f.el + 1) = i ∧ (0 ≤ i ∧ i ≤ f.eh - f.el) := ⟨_, rfl, tmod_in (by omega)⟩
    obtain ⟨j, hj, hj2⟩ : ∃ j : Int, (c : Int).tmod (f.nh - f.nl + 1) = j ∧ (0 ≤ j ∧ j ≤ f.nh - f.nl) := ⟨_, rfl, tmod_in (by omega)⟩
    refine rd ?_
    refine da0 0 (k := ?_)
    refine da0 1 (k := ?_)
    refine d0 2 (k := ?_)
    refine da0 3 (k := ?_)
    refine d1 4 (hc := kLg1.h {}) (k := ?_)
    refine da0 5 (k := ?_)
    refine da0 6 (k := ?_)
    refine d0 7 (k := ?_)
    refine da0 8 (k := ?_)
    refine da0 9 (k := ?_)
    refine d0 10 (k := ?_)
    refine d1 11 (hc := kLg1.h {}) (k := ?_)
    refine d1 12 (hc := kLg1.h {}) (k := ?_)
    refine d1 13 (hc := kLg1.h {}) (k := ?_)
    refine d1 14 (hc := kLg1.h {}) (k := ?_)
    refine da0 15 (k := ?_)
    refine da0 16 (k := ?_)
    refine d0 17 (k := ?_)
    refine da0 18 (k := ?_)
    refine d1 19 (hc := kLg1.h {}) (k := ?_)
    refine da0 20 (k := ?_)
    refine da0 21 (k := ?_)
    refine d0 22 (k := ?_)
    refine da0 23 (k := ?_)
    refine da0 24 (k := ?_)
    refine d0 25 (k := ?_)
    refine d1 26 (hc := kLg1.h {}) (k := ?_)
    refine d1 27 (hc := kLg1.h {}) (k := ?_)
    refine d1 28 (hc := kLg1.h {}) (k := ?_)
    refine d1 29 (hc := kLg1.h {}) (k := ?_)
    refine dn1 30 190 false (hc := kLg1.h {}) (k := ?_)
    refine dn1 31 200 false (hc := kLg1.h {}) (k := ?_)
    refine ds1 32 (hc := kLg1.h {}) (k := ?_)
    refine ds1 33 (hc := kLg1.h {}) (k := ?_)
    refine dz 34 [0, 1, 3, 0, 8, 0, 32, 96, 0, 256, 768, 2016, 4064, 8184, 16383, 0, 32768, 98304, 0, 262144, 0, 1048576, 3145728, 0, 8388608, 25165824, 66060288, 133169152, 268173312, 536838144, 0, 0, 3221258239, 8589934591] (h := ?_)
    refine de 34 (h := ?_)
    refine cl [3, 4, 9, 10] (k := ?_)
    repeat refine gwp_seq ?_
    refine gwp_region ?_
    refine v0 (k := ?_)
    refine pc0 (spec := us_t f hv) (hent := ent14) (k := ?_)
    refine v0 (k := ?_)
    refine v0 (k := ?_)
    refine v0 (k := ?_)
    refine n1 210 false (hc := kLg1.h {}) (k := ?_)
    refine s1 (hc := kLg1.h {}) (k := ?_)
    refine v0 (k := ?_)
    refine nil0 ?_
    refine cl [3, 4, 9, 10, 11, 12] (k := ?_)
    repeat refine gwp_seq ?_
    refine gwp_region ?_
    refine v0 (k := ?_)
    refine v0 (k := ?_)
    refine rb 63 false (h := by (first | rfl | decide)) (k := ?_)
    refine v0 (k := ?_)
    refine w0 (k := ?_)
    refine w0 (k := ?_)
    refine rb 66 false (h := by (first | with_reducible rfl | exact decide_eq_false (by omega) | exact nd_f (by omega) | rfl | decide)) (k := ?_)
    refine v0 (k := ?_)
    refine v0 (k := ?_)
    refine w0 (k := ?_)
    refine w0 (k := ?_)
    refine w0 (k := ?_)
    refine w0 (k := ?_)
    refine w1 (hc := kLg1.h {}) (k := ?_)
    refine w0 (k := ?_)
    refine rb 74 false (h := by (first | rfl | decide)) (k := ?_)
    refine v0 (k := ?_)
    refine rb 75 false (h := by (rfl)) (k := ?_)
    refine nil0 ?_
    repeat refine gwp_seq ?_
    refine cF (k := ?_)
    repeat refine gwp_seq ?_
    refine gwp_skip ?_
    refine cl [3, 4, 9, 10, 11] (k := ?_)
    repeat refine gwp_seq ?_
    refine fz 140 10 [.k, .k, .k, .k, .k, .k, .k, .k, .k, .k] (k := ?_)
    refine fz 190 1 [.k] (k := ?_)
    refine fz 200 1 [.k] (k := ?_)
    refine fz 210 1 [.k] (k := ?_)
    refine gwp_region ?_
    refine v0 (k := ?_)
    refine v0 (k := ?_)
    refine nil0 ?_
    refine cl [3, 4, 9, 10, 11, 13] (k := ?_)
    repeat refine gwp_seq ?_
    refine cv 13 (.f [.n [.k, .k, .k, .k, .k, .k, .k, .k, .k, .k], .n [.k], .n [.k], .n [.k]]) (k := ?_)
    refine gwp_region ?_
    refine v0 (k := ?_)
    refine v1 (hc := kLg1.h {}) (k := ?_)
    refine v0 (k := ?_)
    refine v0 (k := ?_)
    refine v0 (k := ?_)
    refine v1 (hc := kLg1.h {}) (k := ?_)
    refine v1 (hc := kLg1.h {}) (k := ?_)
    refine v0 (k := ?_)
    refine v0 (k := ?_)
    refine nil0 ?_
    refine cl [4, 9, 10, 11, 13, 14] (k := ?_)
    repeat refine gwp_seq ?_
    refine gwp_region ?_
    refine v0 (k := ?_)
    refine v0 (k := ?_)
    refine v0 (k := ?_)
    refine v0 (k := ?_)
    refine pc0 (spec := s_good f hv (b &&& allS f.ps.length) (f.el + i) (f.nl + j) (in_all hxl) (by omega) (by omega)) (hent := ent16) (k := ?_)
    refine v0 (k := ?_)
    refine v0 (k := ?_)
    refine v0 (k := ?_)
    refine v0 (k := ?_)
    refine v0 (k := ?_)
    refine nil0 ?_
    refine cl [4, 11, 13, 14, 15, 16] (k := ?_)
    repeat refine gwp_seq ?_
    refine gwp_region ?_
    refine v0 (k := ?_)
    refine v0 (k := ?_)
    refine rb 94 false (h := by (first | rfl | decide)) (k := ?_)
    refine v0 (k := ?_)
    refine w0 (k := ?_)
    refine w0 (k := ?_)
    refine w0 (k := ?_)
    refine ocw [] [] [0, 0, 0, 0, 0] none (spec := q_30 f hv (b &&& allS f.ps.length) hxl (f.el + i) (f.nl + j)) (hent := ent30) (k := ?_)
    refine w0 (k := ?_)
    refine rb 100 false (h := by (first | exact decide_eq_false (fun h => h rfl) | simp)) (k := ?_)
    refine v0 (k := ?_)
    refine rb 101 false (h := by (rfl)) (k := ?_)
    refine nil0 ?_
    repeat refine gwp_seq ?_
    refine cF (k := ?_)
    repeat refine gwp_seq ?_
    refine gwp_skip ?_
    refine cl [4, 11, 13] (k := ?_)
    repeat refine gwp_seq ?_
    refine gwp_region ?_
    refine v0 (k := ?_)
    refine pc0 (spec := sh_n f hv hw) (hent := ent20) (k := ?_)
    refine v0 (k := ?_)
    refine v0 (k := ?_)
    refine v0 (k := ?_)
    refine v0 (k := ?_)
    refine v0 (k := ?_)
    refine nil0 ?_
    refine cl [11, 13, 17, 18] (k := ?_)
    repeat refine gwp_seq ?_
    refine gwp_region ?_
    refine v0 (k := ?_)
    refine v0 (k := ?_)
    refine rb 108 true (h := by (first | rfl | decide)) (k := ?_)
    refine nil0 ?_
    repeat refine gwp_seq ?_
    refine cT (k := ?_)
    repeat refine gwp_seq ?_
    refine gwp_region ?_
    refine v0 (k := ?_)
    refine v0 (k := ?_)
    refine rb 110 true (h := by (first | rfl | decide)) (k := ?_)
    refine v0 (k := ?_)
    refine w0 (k := ?_)
    refine w0 (k := ?_)
    refine rb 113 true (h := by (first | rfl | decide)) (k := ?_)
    refine v0 (k := ?_)
    refine rb 114 true (h := by (rfl)) (k := ?_)
    refine v0 (k := ?_)
    refine pcw (spec := l_awake) (hent := ent13) (k := ?_)
    refine v0 (k := ?_)
    refine rb 117 true (h := by (rfl)) (k := ?_)
    refine v0 (k := ?_)
    refine nil0 ?_
    repeat refine gwp_seq ?_
    refine gwp_ret ?_
    repeat (first | refine gthen_ret ?_ | refine gblock_ret ?_ | refine gnoGoto_ret ?_)
    refine fin_ret ?_
    refine fp (hR := ?_)
    rfl
theorem l_find_c (f : Fd) (a c b : Nat) (ha : a ≤ 255) (hc : c ≤ 255) (hb : b ≤ 65535) (hh : hvyQ f 12 300 = false) (hv : f.valid = true) (w : Nat) (hw : (setsL f).find? (listQ f) = some w) : PSpec Try.prog 5 [.agg [.list (f.ps.map pS), .int .i64 f.el, .int .i64 f.eh, .int .i64 f.nl, .int .i64 f.nh, .int .i64 f.dl, .int .i64 f.dh, .int .i64 f.dep, .int .i64 f.tm, .int .i64 f.gp], .int .u8 (a : Nat), .int .u8 (c : Nat), .int .u16 (b : Nat)] (.ok (.bool true)) := by
  refine pspec_of Try.func5 (rfl : Try.f5.body = some _) rfl ?_
  intro E A C hN hL
  replace hN : C.N = 134 := hN
  simp only [Gh.num, List.map_cons, List.map_nil, Nat.reduceAdd]
  have hdt : ∀ (i : Decidable True), @decide True i = true := fun i => decide_eq_true trivial
  have hdf : ∀ (i : Decidable False), @decide False i = false := fun i => decide_eq_false id
  have hbt : (true == true) = true := rfl
  have hbf : (false == false) = true := rfl
  have htf : (true == false) = false := rfl
  have hft : (false == true) = false := rfl
  have hpS : ∀ p : Sk, pS p = P.agg [.int .i64 p.el, .int .i64 p.eh, .int .i64 p.nl, .int .i64 p.nh, .int .i64 p.day, .int .i64 p.dep] := fun _ => rfl
  repeat refine gwp_seq ?_
  refine gwp_region ?_
  refine n1 140 false (hc := kLg1.h {}) (k := ?_)
  refine v0 (k := ?_)
  refine nil0 ?_
  refine cl [1, 2, 3, 4] (k := ?_)
  repeat refine gwp_seq ?_
  have hl : f.ps.length ≤ 1048576 := by have := hvy_len hh; omega
  have hn := valid_num hv
  have hpos := Nat.two_pow_pos f.ps.length
  have h62 : 2 ^ f.ps.length ≤ 2 ^ 12 := Nat.pow_le_pow_right (by omega) (by omega)
  have hal := allS_i f.ps.length
  have hal1 := Int.le_of_eq hal
  have hal2 := Int.le_of_eq hal.symm
  have hs12 := allS_lt (n := f.ps.length) (by omega)
  have hsh := shl_b f.ps.length (by omega)
  have hU := used_lt2 f
  have hU0 := shr_z (show f.ps.length ≤ 60 by omega) hU
  have hxl : (b &&& allS f.ps.length) < 2 ^ f.ps.length := Nat.lt_of_le_of_lt Nat.and_le_right in_lt
  have hand := bitop_and_i64 b (allS f.ps.length) (by omega) (by omega)
  have hS := sho_some hv hw
  have hSl := hS.lt
  have hnw : bitop .andNot .i64 (w : Nat) (usedN f f.ps.length : Nat) = 0 := by rw [bitop_andNot_i64 _ _ (by omega) (by omega), (sub_of (by omega) (by omega)).2 hS.sub]; rfl
  · repeat refine gwp_seq ?_
    refine gwp_region ?_
    refine v0 (k := ?_)
    refine pc0 (spec := l_heavy f 12 300) (hent := ent12) (k := ?_)
    refine rb 20 false (h := by (exact hh)) (k := ?_)
    refine v0 (k := ?_)
    refine w0 (k := ?_)
    refine pcw (spec := r_field f hl) (hent := ent29) (k := ?_)
    refine w0 (k := ?_)
    refine rb 24 false (h := by (rfl)) (k := ?_)
    refine v0 (k := ?_)
    refine rb 25 false (h := by (rfl)) (k := ?_)
    refine nil0 ?_
    repeat refine gwp_seq ?_
    refine cF (k := ?_)
    repeat refine gwp_seq ?_
    refine gwp_skip ?_
    refine cl [1, 2, 3, 4] (k := ?_)
    repeat refine gwp_seq ?_
    obtain ⟨i, hi, hi2⟩ : ∃ i : Int, (a : Int).tmod (f.eh - f.el + 1) = i ∧ (0 ≤ i ∧ i ≤ f.eh - f.el) := ⟨_, rfl, tmod_in (by omega)⟩
    obtain ⟨j, hj, hj2⟩ : ∃ j : Int, (c : Int).tmod (f.nh - f.nl + 1) = j ∧ (0 ≤ j ∧ j ≤ f.nh - f.nl) := ⟨_, rfl, tmod_in (by omega)⟩
    have hsw := list_at hS.ls (x := (f.el + i)) (y := (f.nl + j)) (by omega) (by omega)
    refine rd ?_
    refine da0 0 (k := ?_)
    refine da0 1 (k := ?_)
    refine d0 2 (k := ?_)
    refine da0 3 (k := ?_)
    refine d1 4 (hc := kLg1.h {}) (k := ?_)
    refine da0 5 (k := ?_)
    refine da0 6 (k := ?_)
    refine d0 7 (k := ?_)
    refine da0 8 (k := ?_)
    refine da0 9 (k := ?_)
    refine d0 10 (k := ?_)
    refine d1 11 (hc := kLg1.h {}) (k := ?_)
    refine d1 12 (hc := kLg1.h {}) (k := ?_)
    refine d1 13 (hc := kLg1.h {}) (k := ?_)
    refine d1 14 (hc := kLg1.h {}) (k := ?_)
    refine da0 15 (k := ?_)
    refine da0 16 (k := ?_)
    refine d0 17 (k := ?_)
    refine da0 18 (k := ?_)
    refine d1 19 (hc := kLg1.h {}) (k := ?_)
    refine da0 20 (k := ?_)
    refine da0 21 (k := ?_)
    refine d0 22 (k := ?_)
    refine da0 23 (k := ?_)
    refine da0 24 (k := ?_)
    refine d0 25 (k := ?_)
    refine d1 26 (hc := kLg1.h {}) (k := ?_)
    refine d1 27 (hc := kLg1.h {}) (k := ?_)
    refine d1 28 (hc := kLg1.h {}) (k := ?_)
    refine d1 29 (hc := kLg1.h {}) (k := ?_)
    refine dn1 30 190 false (hc := kLg1.h {}) (k := ?_)
    refine dn1 31 200 false (hc := kLg1.h {}) (k := ?_)
    refine ds1 32 (hc := kLg1.h {}) (k := ?_)
    refine ds1 33 (hc := kLg1.h {}) (k := ?_)
    refine dz 34 [0, 1, 3, 0, 8, 0, 32, 96, 0, 256, 768, 2016, 4064, 8184, 16383, 0, 32768, 98304, 0, 262144, 0, 1048576, 3145728, 0, 8388608, 25165824, 66060288, 133169152, 268173312, 536838144, 0, 0, 3221258239, 8589934591] (h := ?_)
    refine de 34 (h := ?_)
    refine cl [3, 4, 9, 10] (k := ?_)
    repeat refine gwp_seq ?_
    refine gwp_region ?_
    refine v0 (k := ?_)
    refine pc0 (spec := us_t f hv) (hent := ent14) (k := ?_)
    refine v0 (k := ?_)
    refine v0 (k := ?_)
    refine v0 (k := ?_)
    refine n1 210 false (hc := kLg1.h {}) (k := ?_)
    refine s1 (hc := kLg1.h {}) (k := ?_)
    refine v0 (k := ?_)
    refine nil0 ?_
    refine cl [3, 4, 9, 10, 11, 12] (k := ?_)
    repeat refine gwp_seq ?_
    refine gwp_region ?_
    refine v0 (k := ?_)
    refine v0 (k := ?_)
    refine rb 63 false (h := by (first | rfl | decide)) (k := ?_)
    refine v0 (k := ?_)
    refine w0 (k := ?_)
    refine w0 (k := ?_)
    refine rb 66 false (h := by (first | with_reducible rfl | exact decide_eq_false (by omega) | exact nd_f (by omega) | rfl | decide)) (k := ?_)
    refine v0 (k := ?_)
    refine v0 (k := ?_)
    refine w0 (k := ?_)
    refine w0 (k := ?_)
    refine w0 (k := ?_)
    refine w0 (k := ?_)
    refine w1 (hc := kLg1.h {}) (k := ?_)
    refine w0 (k := ?_)
    refine rb 74 false (h := by (first | rfl | decide)) (k := ?_)
    refine v0 (k := ?_)
    refine rb 75 false (h := by (rfl)) (k := ?_)
    refine nil0 ?_
    repeat refine gwp_seq ?_
    refine cF (k := ?_)
    repeat refine gwp_seq ?_
    refine gwp_skip ?_
    refine cl [3, 4, 9, 10, 11] (k := ?_)
    repeat refine gwp_seq ?_
    refine fz 140 10 [.k, .k, .k, .k, .k, .k, .k, .k, .k, .k] (k := ?_)
    refine fz 190 1 [.k] (k := ?_)
    refine fz 200 1 [.k] (k := ?_)
    refine fz 210 1 [.k] (k := ?_)
    refine gwp_region ?_
    refine v0 (k := ?_)
    refine v0 (k := ?_)
    refine nil0 ?_
    refine cl [3, 4, 9, 10, 11, 13] (k := ?_)
    repeat refine gwp_seq ?_
    refine cv 13 (.f [.n [.k, .k, .k, .k, .k, .k, .k, .k, .k, .k], .n [.k], .n [.k], .n [.k]]) (k := ?_)
    refine gwp_region ?_
    refine v0 (k := ?_)
    refine v1 (hc := kLg1.h {}) (k := ?_)
    refine v0 (k := ?_)
    refine v0 (k := ?_)
    refine v0 (k := ?_)
    refine v1 (hc := kLg1.h {}) (k := ?_)
    refine v1 (hc := kLg1.h {}) (k := ?_)
    refine v0 (k := ?_)
    refine v0 (k := ?_)
    refine nil0 ?_
    refine cl [4, 9, 10, 11, 13, 14] (k := ?_)
    repeat refine gwp_seq ?_
    refine gwp_region ?_
    refine v0 (k := ?_)
    refine v0 (k := ?_)
    refine v0 (k := ?_)
    refine v0 (k := ?_)
    refine pc0 (spec := s_good f hv (b &&& allS f.ps.length) (f.el + i) (f.nl + j) (in_all hxl) (by omega) (by omega)) (hent := ent16) (k := ?_)
    refine v0 (k := ?_)
    refine v0 (k := ?_)
    refine v0 (k := ?_)
    refine v0 (k := ?_)
    refine v0 (k := ?_)
    refine nil0 ?_
    refine cl [4, 11, 13, 14, 15, 16] (k := ?_)
    repeat refine gwp_seq ?_
    refine gwp_region ?_
    refine v0 (k := ?_)
    refine v0 (k := ?_)
    refine rb 94 false (h := by (first | rfl | decide)) (k := ?_)
    refine v0 (k := ?_)
    refine w0 (k := ?_)
    refine w0 (k := ?_)
    refine w0 (k := ?_)
    refine ocw [] [] [0, 0, 0, 0, 0] none (spec := q_30 f hv (b &&& allS f.ps.length) hxl (f.el + i) (f.nl + j)) (hent := ent30) (k := ?_)
    refine w0 (k := ?_)
    refine rb 100 false (h := by (first | exact decide_eq_false (fun h => h rfl) | simp)) (k := ?_)
    refine v0 (k := ?_)
    refine rb 101 false (h := by (rfl)) (k := ?_)
    refine nil0 ?_
    repeat refine gwp_seq ?_
    refine cF (k := ?_)
    repeat refine gwp_seq ?_
    refine gwp_skip ?_
    refine cl [4, 11, 13] (k := ?_)
    repeat refine gwp_seq ?_
    refine gwp_region ?_
    refine v0 (k := ?_)
    refine pc0 (spec := sh_t f hv w hw) (hent := ent20) (k := ?_)
    refine v0 (k := ?_)
    refine v0 (k := ?_)
    refine v0 (k := ?_)
    refine v0 (k := ?_)
    refine v0 (k := ?_)
    refine nil0 ?_
    refine cl [11, 13, 17, 18] (k := ?_)
    repeat refine gwp_seq ?_
    refine gwp_region ?_
    refine v0 (k := ?_)
    refine v0 (k := ?_)
    refine rb 108 false (h := by (first | rfl | decide)) (k := ?_)
    refine nil0 ?_
    repeat refine gwp_seq ?_
    refine cF (k := ?_)
    repeat refine gwp_seq ?_
    refine gwp_skip ?_
    refine cl [11, 13, 17] (k := ?_)
    repeat refine gwp_seq ?_
    refine gwp_region ?_
    refine v0 (k := ?_)
    refine v0 (k := ?_)
    refine rb 119 true (h := by (first | with_reducible rfl | exact decide_eq_true (by omega) | exact nd_t (by omega) | rfl | decide)) (k := ?_)
    refine v0 (k := ?_)
    refine w0 (k := ?_)
    refine w0 (k := ?_)
    refine w0 (k := ?_)
    refine w0 (k := ?_)
    refine rb 124 true (h := by (first | rfl | decide)) (k := ?_)
    refine v0 (k := ?_)
    refine rb 125 true (h := by (rfl)) (k := ?_)
    refine v0 (k := ?_)
    refine w0 (k := ?_)
    refine w0 (k := ?_)
    refine ocw [] [] [0, 0, 0, 0, 0] none (spec := (by have h := q_30 (E := E) (A := A) f hv w hS.lt (f.el + i) (f.nl + j); rw [hsw] at h; exact h)) (hent := ent30) (k := ?_)
    refine v0 (k := ?_)
    refine rb 130 true (h := by (rfl)) (k := ?_)
    refine v0 (k := ?_)
    refine pcw (spec := l_awake) (hent := ent13) (k := ?_)
    refine v0 (k := ?_)
    refine rb 133 true (h := by (rfl)) (k := ?_)
    refine v0 (k := ?_)
    refine nil0 ?_
    repeat refine gwp_seq ?_
    refine gwp_ret ?_
    repeat (first | refine gthen_ret ?_ | refine gblock_ret ?_ | refine gnoGoto_ret ?_)
    refine fin_ret ?_
    refine fp (hR := ?_)
    rfl
theorem l_finds (f : Fd) (a c b : Nat) (ha : a ≤ 255) (hc : c ≤ 255) (hb : b ≤ 65535) : PSpec Try.prog 5 [.agg [.list (f.ps.map pS), .int .i64 f.el, .int .i64 f.eh, .int .i64 f.nl, .int .i64 f.nh, .int .i64 f.dl, .int .i64 f.dh, .int .i64 f.dep, .int .i64 f.tm, .int .i64 f.gp], .int .u8 (a : Nat), .int .u8 (c : Nat), .int .u16 (b : Nat)] (.ok (.bool true)) := by
  cases hh : hvyQ f 12 300 with
  | true => exact l_find_x f a c b ha hc hb hh
  | false =>
    cases hv : f.valid with
    | false => exact l_find_a f a c b ha hc hb hh hv
    | true =>
      cases hw : (setsL f).find? (listQ f) with
      | none => exact l_find_b f a c b ha hc hb hh hv hw
      | some w => exact l_find_c f a c b ha hc hb hh hv w hw
end Go.Proofs.Ytabeeaiilanmjaa

/- The statement CoverFinds, for every input: the law returns true, and its arguments read as they did.  -/
namespace Go.Proofs.Ytabeeaiilanmjaa
open Go.Gh Go.ChangeShapes Go.WideShapes Go.ChangeAt Go.RowKit
set_option maxRecDepth 100000
theorem aj_finds : ∀ ps, FitAs [(true, fdSS), (false, [.int .u8]), (false, [.int .u8]), (false, [.int .u16])] ps → PSpec Try.prog 5 ps (.ok (.bool true)) := fun ps h => by
  simp only [FitAs] at h
  obtain ⟨_, _, rfl, q0, _, _, rfl, q1, _, _, rfl, q2, _, _, rfl, q3, rfl⟩ := h
  obtain ⟨f, rfl, hf⟩ := fd_of q0
  obtain ⟨a, rfl, ha⟩ := u8_of q1
  obtain ⟨c, rfl, hc⟩ := u8_of q2
  obtain ⟨b, rfl, hb⟩ := u16_of q3
  exact l_finds f a c b ha hc hb
theorem finds_lifted (os : Os) (started : os.Started) (H : Type) (enc : TypeId × Value → H) :
    ReturnsInHanded {} Try.checked os 5 .any (Rows.coverFindsSpec.pre6 enc Try.prog Try.f5 Rows.coverFindsRow.domain false) (Rows.coverFindsSpec.post enc Try.prog Try.f5 false true false false) := by
  refine returnsInHanded_of_change (C := Try.checked) own started (by kernel_rfl) Try.func5
    (ChangeSpec.witness6 (enc := enc) (C := Try.checked) false ⟨#[], #[.agg #[.slice none 0 0, .int .i64 0, .int .i64 0, .int .i64 0, .int .i64 0, .int .i64 0, .int .i64 0, .int .i64 0, .int .i64 0, .int .i64 0], .int .u8 0, .int .u8 0, .int .u16 0], []⟩ 8 (by kernel_rfl) (by kernel_rfl) (by kernel_rfl) (by kernel_rfl)) ?_
  intro W base args ds gs before hval hW _ _
  exact law_post (n := 9) (ss := [(true, fdSS), (false, [.int .u8]), (false, [.int .u8]), (false, [.int .u16])]) (b := 4) laidOut (by kernel_rfl) (by kernel_rfl) (by kernel_rfl) (by kernel_rfl) rfl
    (fun ds hd => by
      have hd' : ds.length = 4 := hd
      match ds, hd' with
      | [a, b, c, d], _ => rfl) aj_finds hval hW
theorem finds_holds : Rows.CoverFindsSaid :=
  OpenClaim.holds_of_wide 5 Try.f5 rfl rfl rfl rfl rfl rfl rfl ⟨rfl, rfl, rfl, rfl, rfl⟩ rfl rfl rfl rfl rfl (by kernel_rfl) Try.func5 (by kernel_rfl)
    (of_decide_eq_true (by kernel_rfl)) (by unfold Func.isWrapper; first | (rw [if_pos (by decide +kernel)]; kernel_rfl) | (rw [if_neg (by decide +kernel)]; exact ⟨rfl, rfl⟩))
    (fun os started H enc _ => finds_lifted os started H enc)
end Go.Proofs.Ytabeeaiilanmjaa
