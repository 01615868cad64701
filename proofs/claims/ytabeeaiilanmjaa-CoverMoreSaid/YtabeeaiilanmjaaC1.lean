/- The statement CoverMore: the call returns true for every input, and its arguments read as before; no condition. -/
import Derived.Test.YtabeeaiilanmjaaB3
set_option linter.unusedVariables false
set_option linter.unusedSimpArgs false
/- More plates serve no less: sets that are lists, and larger ones. -/
namespace Go.Proofs.Ytabeeaiilanmjaa
open Go.Gh
set_option maxRecDepth 100000
/-- One set lies in another. -/
def Sub (s t : Nat) : Prop := ∀ i, s.testBit i = true → t.testBit i = true
theorem Sub.refl (s : Nat) : Sub s s := fun _ h => h
theorem Sub.trans {s t u : Nat} (h : Sub s t) (k : Sub t u) : Sub s u := fun i hi => k i (h i hi)
theorem and_sub (s t : Nat) : Sub (s &&& t) s := fun i h => by rw [Nat.testBit_and, Bool.and_eq_true] at h; exact h.1
theorem and_sub2 (s t : Nat) : Sub (s &&& t) t := fun i h => by rw [Nat.testBit_and, Bool.and_eq_true] at h; exact h.2
theorem Sub.and {s t : Nat} (h : Sub s t) (a : Nat) : Sub (a &&& s) (a &&& t) := fun i hi => by
  rw [Nat.testBit_and, Bool.and_eq_true] at hi ⊢
  exact ⟨hi.1, h i hi.2⟩
theorem days_sub {ps : List Sk} {s t : Nat} (h : Sub s t) : ∀ k, (daysN ps s k).Sublist (daysN ps t k)
  | 0 => List.Sublist.refl _
  | k + 1 => by
    have ih := days_sub (ps := ps) h k
    rw [daysN, daysN]
    split
    · by_cases hs : s.testBit k = true
      · rw [if_pos hs, if_pos (h k hs)]
        exact ih.append (List.Sublist.refl _)
      rw [if_neg hs]
      split
      · exact ih.trans (List.sublist_append_left _ _)
      exact ih
    exact ih
/-- From a longer list no fewer can be chosen. -/
theorem most_sub {gap : Int} {l m : List Int} (h : l.Sublist m) : mostR gap l [] ≤ mostR gap m [] := by
  obtain ⟨t, h1, h2, h3⟩ := most_has gap l [] List.Pairwise.nil
  have := most_max gap m [] t (h1.trans h) h2
  rw [h3]
  exact this
theorem serv_sub {f : Fd} (hv : f.valid = true) {s t : Nat} (h : Sub s t) (hs : servQ f s = true) : servQ f t = true := by
  have hn := valid_num hv
  rw [servQ, grd_most (by omega), decide_eq_true_eq] at hs ⊢
  have := most_sub (gap := f.gp) (days_sub (ps := f.ps) h f.ps.length)
  omega
theorem list_sub {f : Fd} (hv : f.valid = true) {s t : Nat} (h : Sub s t) (hs : listQ f s = true) : listQ f t = true := by
  rw [listQ, List.all_eq_true] at hs ⊢
  exact fun p hp => serv_sub hv (h.and _) (hs p hp)
theorem at_used (f : Fd) (x y : Int) : Sub (atN f x y) (usedN f f.ps.length) := fun i h => by
  rw [atN, atK, setN_bit, Bool.and_eq_true, decide_eq_true_eq] at h
  rw [usedN, setN_bit, Bool.and_eq_true, decide_eq_true_eq]
  refine ⟨h.1, ?_⟩
  obtain ⟨h1, h2⟩ := h
  rw [plQ] at h2 ⊢
  split at h2
  · rename_i p hp
    rw [Bool.and_eq_true] at h2
    exact h2.1
  cases h2
theorem used_lt2 (f : Fd) : usedN f f.ps.length < 2 ^ f.ps.length := setN_lt2 _ _
theorem and_and {a u s : Nat} (h : Sub a u) : a &&& (s &&& u) = a &&& s := Nat.eq_of_testBit_eq fun i => by
  rw [Nat.testBit_and, Nat.testBit_and, Nat.testBit_and]
  cases ha : a.testBit i with
  | false => rfl
  | true => rw [h i ha, Bool.and_true]
/-- Plates of no use make no list. -/
theorem list_used (f : Fd) (s : Nat) : listQ f (s &&& usedN f f.ps.length) = listQ f s := by
  rw [listQ, listQ]
  congr 1
  funext p
  rw [and_and (at_used f p.1 p.2)]
theorem all_bit {n i : Nat} : (allS n).testBit i = decide (i < n) := by rw [allS, Nat.testBit_two_pow_sub_one]
theorem all_sub {s n : Nat} (h : s < 2 ^ n) : Sub s (allS n) := fun i hi => by
  rw [all_bit, decide_eq_true_eq]
  apply Nat.lt_of_not_le
  intro h2
  rw [lt_bit h h2] at hi; cases hi
theorem list_all {f : Fd} : listQ f (allS f.ps.length) = listQ f (usedN f f.ps.length) := by
  rw [← list_used f (allS f.ps.length)]
  congr 1
  refine Nat.eq_of_testBit_eq fun i => ?_
  rw [Nat.testBit_and]
  cases h : (usedN f f.ps.length).testBit i with
  | false => rw [Bool.and_false]
  | true => rw [all_sub (used_lt2 f) i h]; rfl
end Go.Proofs.Ytabeeaiilanmjaa

/- The shortest list: the first one by size, then by number; how many are as short; what is needed. -/
namespace Go.Proofs.Ytabeeaiilanmjaa
open Go.Gh
set_option maxRecDepth 100000
theorem mod_bit (n : Nat) : n % 2 = if n.testBit 0 = true then 1 else 0 := by
  rw [Nat.testBit_zero]
  by_cases h : n % 2 = 1
  · rw [h]; rfl
  rw [if_neg (by simpa using h)]; omega
theorem half_bit (n i : Nat) : (n / 2).testBit i = n.testBit (i + 1) := by rw [Nat.testBit_succ]
theorem Sub.half {s t : Nat} (h : Sub s t) : Sub (s / 2) (t / 2) := fun i hi => by rw [half_bit] at hi ⊢; exact h _ hi
/-- A set that lies in another one is no larger, and smaller unless it is the same. -/
theorem pop_sub : ∀ (n s t : Nat), s < 2 ^ n → t < 2 ^ n → n ≤ 12 → Sub s t → pop s < pop t ∨ s = t
  | 0, s, t, h1, h2, _, _ => .inr (by omega)
  | n + 1, s, t, h1, h2, hn, h => by
    have hp : 2 ^ (n + 1) ≤ 2 ^ 12 := Nat.pow_le_pow_right (by omega) hn
    have e1 := pop_half (m := s) (by omega)
    have e2 := pop_half (m := t) (by omega)
    rw [Nat.pow_succ] at h1 h2
    have ih := pop_sub n (s / 2) (t / 2) (by omega) (by omega) (by omega) h.half
    have hb : s % 2 ≤ t % 2 := by
      rw [mod_bit, mod_bit]
      by_cases h0 : s.testBit 0 = true
      · rw [if_pos h0, if_pos (h 0 h0)]; exact Nat.le_refl _
      rw [if_neg h0]; exact Nat.zero_le _
    rcases ih with ih | ih
    · left; omega
    rw [ih] at e1
    by_cases hb2 : s % 2 = t % 2
    · right; omega
    left; omega
theorem sub_of {s u : Nat} (hs : s < 2 ^ 62) (hu : u < 2 ^ 62) : s &&& (2 ^ 64 - 1 - u) = 0 ↔ Sub s u := by
  constructor
  · intro h i hi
    have h2 := congrArg (Nat.testBit · i) h
    simp only [Nat.testBit_and, Nat.zero_testBit, hi, Bool.true_and] at h2
    rw [show 2 ^ 64 - 1 - u = 2 ^ 64 - (u + 1) by omega, Nat.testBit_two_pow_sub_succ (by omega)] at h2
    have hi62 : i < 62 := Nat.lt_of_not_le fun h3 => by rw [lt_bit hs h3] at hi; cases hi
    rw [decide_eq_true (show i < 64 by omega)] at h2
    simpa using h2
  intro h
  exact Gh.sub_zero hs hu h
def Bef2 (a b : Nat) : Prop := pop a < pop b ∨ (pop a = pop b ∧ a < b)
theorem ok_pop {u z s : Nat} (h : okS u z s = true) : pop s = z := by
  rw [okS, Bool.and_eq_true, decide_eq_true_eq, decide_eq_true_eq] at h; exact h.2
theorem sz_pair (u z : Nat) : ∀ s, (szL u z s).Pairwise Bef2
  | 0 => List.Pairwise.nil
  | s + 1 => by
    have ih := sz_pair u z s
    rw [szL]
    split
    · rename_i h
      refine List.pairwise_append.2 ⟨ih, List.pairwise_singleton _ _, fun a ha b hb => ?_⟩
      rw [List.mem_singleton] at hb; subst hb
      have := sz_mem.1 ha
      exact .inr ⟨by rw [ok_pop this.2, ok_pop h], this.1⟩
    exact ih
theorem set_pair (u N : Nat) : ∀ Z, (setL u N Z).Pairwise Bef2
  | 0 => List.Pairwise.nil
  | Z + 1 => by
    rw [setL]
    refine List.pairwise_append.2 ⟨set_pair u N Z, sz_pair u Z N, fun a ha b hb => ?_⟩
    obtain ⟨_, z, h1, h2⟩ := set_mem.1 ha
    have h3 := sz_mem.1 hb
    left
    rw [ok_pop h2, ok_pop h3.2]; exact h1
theorem sets_mem {f : Fd} (hl : f.ps.length ≤ 12) {x : Nat} : x ∈ setsL f ↔ x < 2 ^ f.ps.length ∧ Sub x (usedN f f.ps.length) := by
  have hp : 2 ^ f.ps.length ≤ 2 ^ 12 := Nat.pow_le_pow_right (by omega) hl
  have hu := used_lt2 f
  rw [setsL, set_mem]
  constructor
  · rintro ⟨h1, z, _, h2⟩
    rw [okS, Bool.and_eq_true, decide_eq_true_eq] at h2
    exact ⟨h1, (sub_of (by omega) (by omega)).1 h2.1⟩
  rintro ⟨h1, h2⟩
  refine ⟨h1, pop x, ?_, ok_t ((sub_of (by omega) (by omega)).2 h2) rfl⟩
  rcases pop_sub _ x _ h1 hu hl h2 with h3 | h3
  · omega
  rw [← h3]; omega
/-- What is said of the shortest list. -/
structure Sho (f : Fd) (w : Nat) : Prop where
  lt : w < 2 ^ f.ps.length
  sub : Sub w (usedN f f.ps.length)
  ls : listQ f w = true
  min : ∀ s, s < 2 ^ f.ps.length → listQ f s = true → pop w < pop s ∨ (pop w = pop s ∧ w ≤ s)
theorem and_lt2 {s u n : Nat} (h : s < 2 ^ n) : s &&& u < 2 ^ n := Nat.lt_of_le_of_lt Nat.and_le_left h
theorem sho_some {f : Fd} (hv : f.valid = true) {w : Nat} (h : (setsL f).find? (listQ f) = some w) : Sho f w := by
  have hn := valid_num hv
  have hl : f.ps.length ≤ 12 := by omega
  obtain ⟨h1, l1, l2, h2, h3⟩ := List.find?_eq_some_iff_append.1 h
  have hm := (sets_mem hl).1 (List.mem_of_find?_eq_some h)
  refine ⟨hm.1, hm.2, h1, fun s hs hq => ?_⟩
  have hu := used_lt2 f
  have hq2 : listQ f (s &&& usedN f f.ps.length) = true := by rw [list_used]; exact hq
  have hsm : s &&& usedN f f.ps.length ∈ setsL f := (sets_mem hl).2 ⟨and_lt2 hs, and_sub2 _ _⟩
  have hpw : (setsL f).Pairwise Bef2 := set_pair _ _ _
  have hle : pop w < pop (s &&& usedN f f.ps.length) ∨ (pop w = pop (s &&& usedN f f.ps.length) ∧ w ≤ s &&& usedN f f.ps.length) := by
    rw [h2] at hsm hpw
    rcases List.mem_append.1 hsm with h4 | h4
    · have := h3 _ h4
      rw [hq2] at this; cases this
    rcases List.mem_cons.1 h4 with h4 | h4
    · rw [h4]; exact .inr ⟨rfl, Nat.le_refl _⟩
    have := (List.pairwise_cons.1 (List.pairwise_append.1 hpw).2.1).1 _ h4
    rcases this with h5 | h5
    · exact .inl h5
    exact .inr ⟨h5.1, by omega⟩
  rcases pop_sub _ (s &&& usedN f f.ps.length) s (and_lt2 hs) hs hl (and_sub _ _) with h5 | h5
  · left; omega
  rwa [h5] at hle
theorem sho_none {f : Fd} (hv : f.valid = true) : (setsL f).find? (listQ f) = none ↔ listQ f (usedN f f.ps.length) = false := by
  have hn := valid_num hv
  rw [List.find?_eq_none]
  constructor
  · intro h
    have := h _ ((sets_mem (by omega)).2 ⟨used_lt2 f, Sub.refl _⟩)
    simpa using this
  intro h x hx hq
  have := list_sub hv ((sets_mem (by omega)).1 hx).2 hq
  rw [h] at this; cases this
/-- How many sets up to one are as short, and lists. -/
def numR (f : Fd) (w : Nat) : Nat → Nat
  | 0 => 0
  | s + 1 => if sameQ f w s = true then numR f w s + 1 else numR f w s
theorem off_bit {s k : Nat} (hk : k < 12) (i : Nat) : (s &&& (2 ^ 64 - 1 - 2 ^ k)).testBit i = (s.testBit i && !decide (k = i)) ∨ 64 ≤ i := by
  by_cases hi : 64 ≤ i
  · exact .inr hi
  left
  have h2 : 2 ^ k < 2 ^ 64 := Nat.pow_lt_pow_right (by omega) (by omega)
  rw [Nat.testBit_and, show 2 ^ 64 - 1 - 2 ^ k = 2 ^ 64 - (2 ^ k + 1) by omega, Nat.testBit_two_pow_sub_succ h2, decide_eq_true (show i < 64 by omega), Bool.true_and, Nat.testBit_two_pow]
end Go.Proofs.Ytabeeaiilanmjaa

/- What several statements use: what is missing, by cases; sets in range. -/
namespace Go.Proofs.Ytabeeaiilanmjaa
open Go.Gh
set_option maxRecDepth 100000
set_option maxHeartbeats 4000000
def misE (f : Fd) (s : Nat) : Int := match misL f s with | [] => 4 | _ :: _ => 0
end Go.Proofs.Ytabeeaiilanmjaa

/- What is needed lies in every list; if it is one it is the only shortest one. -/
namespace Go.Proofs.Ytabeeaiilanmjaa
open Go.Gh
set_option maxRecDepth 100000
def butN (f : Fd) (i : Nat) : Nat := allS f.ps.length &&& (2 ^ 64 - 1 - 2 ^ i)
theorem but_lt (f : Fd) (i : Nat) : butN f i < 2 ^ f.ps.length := Nat.lt_of_le_of_lt Nat.and_le_left (by have := Nat.two_pow_pos f.ps.length; rw [allS]; omega)
theorem but_bit {f : Fd} {i j : Nat} (hi : i < 12) (hj : j < f.ps.length) (hl : f.ps.length ≤ 12) : (butN f i).testBit j = !decide (i = j) := by
  rcases off_bit (s := allS f.ps.length) hi j with h | h
  · rw [butN, h, all_bit, decide_eq_true hj, Bool.true_and]
  omega
theorem lt_of_bit {s n i : Nat} (h : s < 2 ^ n) (hb : s.testBit i = true) : i < n := Nat.lt_of_not_le fun h2 => by rw [lt_bit h h2] at hb; cases hb
/-- A set without a plate lies in all but that one. -/
theorem but_sub {f : Fd} (hl : f.ps.length ≤ 12) {s i : Nat} (hs : s < 2 ^ f.ps.length) (hi : i < 12) (hb : s.testBit i = false) : Sub s (butN f i) := fun j hj => by
  rw [but_bit hi (lt_of_bit hs hj) hl]
  by_cases e : i = j
  · subst e; rw [hb] at hj; cases hj
  rw [decide_eq_false e]; rfl
theorem need_bit {f : Fd} (hv : f.valid = true) (hq : listQ f (usedN f f.ps.length) = true) {i : Nat} (hi : i < f.ps.length) : (needN f f.ps.length).testBit i = !listQ f (butN f i) := by
  have hn := valid_num hv
  have hl : f.ps.length ≤ 12 := by omega
  rw [needN, setN_bit, decide_eq_true hi, Bool.true_and, needQ]
  cases hu : (usedN f f.ps.length).testBit i with
  | true =>
    rw [Bool.true_and, ← list_used f (butN f i)]
    congr 2
    refine Nat.eq_of_testBit_eq fun j => ?_
    rw [lessN, Nat.testBit_and (butN f i)]
    rcases off_bit (s := usedN f f.ps.length) (show i < 12 by omega) j with h | h
    · rw [h]
      cases hj : (usedN f f.ps.length).testBit j with
      | false => rw [Bool.false_and, Bool.and_false]
      | true => rw [but_bit (by omega) (lt_of_bit (used_lt2 f) hj) hl, Bool.true_and, Bool.and_true]
    rw [lt_bit (used_lt2 f) (show f.ps.length ≤ j by omega), Bool.and_false]
    exact lt_bit (and_lt2 (used_lt2 f)) (show f.ps.length ≤ j by omega)
  | false =>
    rw [Bool.false_and, list_sub hv (but_sub hl (used_lt2 f) (by omega) hu) hq]; rfl
end Go.Proofs.Ytabeeaiilanmjaa

/- With a plate more, a lesser depth, fewer times, a lesser gap, or fewer places, all that was a list still is one. -/
namespace Go.Proofs.Ytabeeaiilanmjaa
open Go.Gh
set_option maxRecDepth 100000
/-- All sets that are lists of one field are lists of another one. -/
structure Wid (f x : Fd) : Prop where
  len : f.ps.length ≤ x.ps.length
  ls : ∀ s, s < 2 ^ f.ps.length → listQ f s = true → listQ x s = true
theorem at_bit {f : Fd} {a b : Int} {k : Nat} : (atN f a b).testBit k = true ↔ ∃ p, f.ps[k]? = some p ∧ useQ f p = true ∧ hasQ p a b = true := by
  rw [atN, atK, setN_bit, Bool.and_eq_true, decide_eq_true_eq, plQ]
  constructor
  · rintro ⟨hk, h⟩
    rw [List.getElem?_eq_getElem hk] at h
    simp only [Bool.and_eq_true] at h
    exact ⟨_, List.getElem?_eq_getElem hk, h⟩
  rintro ⟨p, hp, h1, h2⟩
  refine ⟨(List.getElem?_eq_some_iff.1 hp).1, ?_⟩
  rw [hp]
  simp only [h1, h2, Bool.and_self]
theorem pls_iff {f : Fd} {e : Int × Int} : e ∈ plsL f ↔ (f.el ≤ e.1 ∧ e.1 ≤ f.eh) ∧ f.nl ≤ e.2 ∧ e.2 ≤ f.nh :=
  ⟨pls_mem, fun h => mem_pls h.1 h.2⟩
theorem list_iff {f : Fd} {s : Nat} : listQ f s = true ↔ ∀ a b, (f.el ≤ a ∧ a ≤ f.eh) ∧ f.nl ≤ b ∧ b ≤ f.nh → servQ f (atN f a b &&& s) = true := by
  rw [listQ, List.all_eq_true]
  exact ⟨fun h a b hab => h (a, b) (pls_iff.2 hab), fun h e he => h e.1 e.2 (pls_iff.1 he)⟩
/-- Two sets with the same bits. -/
theorem bit_ext {s t : Nat} (h : ∀ i, s.testBit i = true ↔ t.testBit i = true) : s = t := Nat.eq_of_testBit_eq fun i => Bool.eq_iff_iff.2 (h i)
def moreF (f : Fd) (p : Sk) : Fd := ⟨f.ps ++ [p], f.el, f.eh, f.nl, f.nh, f.dl, f.dh, f.dep, f.tm, f.gp⟩
def depF (f : Fd) (d : Int) : Fd := ⟨f.ps, f.el, f.eh, f.nl, f.nh, f.dl, f.dh, d, f.tm, f.gp⟩
def tmF (f : Fd) (t : Int) : Fd := ⟨f.ps, f.el, f.eh, f.nl, f.nh, f.dl, f.dh, f.dep, t, f.gp⟩
def gpF (f : Fd) (g : Int) : Fd := ⟨f.ps, f.el, f.eh, f.nl, f.nh, f.dl, f.dh, f.dep, f.tm, g⟩
def ehF (f : Fd) (e : Int) : Fd := ⟨f.ps, f.el, e, f.nl, f.nh, f.dl, f.dh, f.dep, f.tm, f.gp⟩
theorem days_app {ps : List Sk} {p : Sk} {z : Nat} : ∀ k, k ≤ ps.length → daysN (ps ++ [p]) z k = daysN ps z k
  | 0, _ => rfl
  | k + 1, hk => by rw [daysN, daysN, days_app k (by omega), List.getElem?_append_left (by omega)]
theorem wid_more (f : Fd) (p : Sk) : Wid f (moreF f p) := by
  refine ⟨by simp [moreF], fun s hs h => ?_⟩
  rw [list_iff] at h ⊢
  intro a b hab
  have h1 := h a b hab
  have e : atN (moreF f p) a b &&& s = atN f a b &&& s := bit_ext fun i => by
    simp only [Nat.testBit_and, Bool.and_eq_true]
    refine and_congr_left fun hi => ?_
    have hil := lt_of_bit hs hi
    rw [at_bit, at_bit]
    show (∃ q, (f.ps ++ [p])[i]? = some q ∧ useQ f q = true ∧ hasQ q a b = true) ↔ _
    rw [List.getElem?_append_left hil]
  rw [e]
  have hz : (atN f a b &&& s).testBit f.ps.length = false := lt_bit (Nat.lt_of_le_of_lt Nat.and_le_right hs) (Nat.le_refl _)
  have hd : daysN (f.ps ++ [p]) (atN f a b &&& s) (f.ps ++ [p]).length = daysN f.ps (atN f a b &&& s) f.ps.length := by
    rw [List.length_append, List.length_cons, List.length_nil, daysN, List.getElem?_append_right (Nat.le_refl _), Nat.sub_self]
    simp only [List.getElem?_cons_zero, hz]
    rw [if_neg (by simp)]
    exact days_app _ (Nat.le_refl _)
  rw [servQ] at h1 ⊢
  show decide (f.tm ≤ (grd f.gp (sortI (daysN (f.ps ++ [p]) (atN f a b &&& s) (f.ps ++ [p]).length))).1) = true
  rw [hd]; exact h1
theorem wid_dep {f : Fd} (hv : f.valid = true) {d : Int} (hd : d ≤ f.dep) : Wid f (depF f d) := by
  refine ⟨Nat.le_refl _, fun s hs h => ?_⟩
  rw [list_iff] at h ⊢
  intro a b hab
  refine serv_sub hv (fun i hi => ?_) (h a b hab)
  rw [Nat.testBit_and, Bool.and_eq_true] at hi ⊢
  refine ⟨?_, hi.2⟩
  obtain ⟨p, h1, h2, h3⟩ := at_bit.1 hi.1
  refine at_bit.2 ⟨p, h1, ?_, h3⟩
  simp only [useQ, Bool.and_eq_true, decide_eq_true_eq] at h2 ⊢
  have : (depF f d).dep = d := rfl
  exact ⟨⟨h2.1.1, by rw [this]; omega⟩, h2.2⟩
theorem wid_tm {f : Fd} {t : Int} (ht : t ≤ f.tm) : Wid f (tmF f t) := by
  refine ⟨Nat.le_refl _, fun s hs h => ?_⟩
  rw [list_iff] at h ⊢
  intro a b hab
  have := h a b hab
  rw [servQ, decide_eq_true_eq] at this ⊢
  exact Int.le_trans ht this
theorem most_gap {g g' : Int} (h : g' ≤ g) (l : List Int) : mostR g l [] ≤ mostR g' l [] := by
  obtain ⟨t, h1, h2, h3⟩ := most_has g l [] List.Pairwise.nil
  have := most_max g' l [] t h1 (List.Pairwise.imp (fun {a b} hab => by
    simp only [apartI, Bool.or_eq_true, decide_eq_true_eq] at hab ⊢
    omega) h2)
  rw [h3]; exact this
theorem wid_gp {f : Fd} (hv : f.valid = true) {g : Int} (h0 : 0 ≤ g) (hg : g ≤ f.gp) : Wid f (gpF f g) := by
  have hn := valid_num hv
  refine ⟨Nat.le_refl _, fun s hs h => ?_⟩
  rw [list_iff] at h ⊢
  intro a b hab
  have := h a b hab
  rw [servQ, decide_eq_true_eq, grd_most (by omega)] at this
  rw [servQ, decide_eq_true_eq, grd_most (show 0 ≤ (gpF f g).gp from h0)]
  have h2 := most_gap hg (daysN f.ps (atN f a b &&& s) f.ps.length)
  show f.tm ≤ (mostR g (daysN f.ps (atN f a b &&& s) f.ps.length) [] : Nat)
  omega
theorem use_iff {f : Fd} {p : Sk} : useQ f p = true ↔ ((f.dl ≤ p.day ∧ p.day ≤ f.dh) ∧ f.dep ≤ p.dep) ∧ max f.el p.el ≤ min f.eh p.eh ∧ max f.nl p.nl ≤ min f.nh p.nh := by
  simp only [useQ, inB, Bool.and_eq_true, decide_eq_true_eq]
theorem wid_eh {f : Fd} {e : Int} (he : e ≤ f.eh) : Wid f (ehF f e) := by
  refine ⟨Nat.le_refl _, fun s hs h => ?_⟩
  rw [list_iff] at h ⊢
  intro a b hab
  have hab2 : (f.el ≤ a ∧ a ≤ e) ∧ f.nl ≤ b ∧ b ≤ f.nh := hab
  have h2 := h a b (by omega)
  have hz : atN (ehF f e) a b = atN f a b := bit_ext fun i => by
    rw [at_bit, at_bit]
    refine exists_congr fun p => and_congr_right fun _ => and_congr_left fun hp => ?_
    simp only [hasQ, inB, Bool.and_eq_true, decide_eq_true_eq] at hp
    rw [use_iff, use_iff]
    dsimp only [ehF]
    constructor
    · rintro ⟨h1, h3, h4⟩
      exact ⟨h1, by omega, by omega⟩
    rintro ⟨h1, h3, h4⟩
    exact ⟨h1, by omega, by omega⟩
  rw [hz]; exact h2
theorem Wid.some {f x : Fd} (hv : f.valid = true) (hvx : x.valid = true) (h : Wid f x) {w : Nat} (hS : Sho f w) : ∃ v, (setsL x).find? (listQ x) = some v ∧ pop v ≤ pop w := by
  have hw : w < 2 ^ x.ps.length := Nat.lt_of_lt_of_le hS.lt (Nat.pow_le_pow_right (by omega) h.len)
  have hl := h.ls w hS.lt hS.ls
  cases hf : (setsL x).find? (listQ x) with
  | none =>
    have h1 := (sho_none hvx).1 hf
    have hl2 := hl
    rw [← list_used] at hl2
    rw [list_sub hvx (and_sub2 _ _) hl2] at h1
    cases h1
  | some v =>
    refine ⟨v, rfl, ?_⟩
    have := (sho_some hvx hf).min w hw hl
    omega
/-- With a plate more nothing else is needed. -/
theorem more_need {f : Fd} (hv : f.valid = true) {p : Sk} (hvx : (moreF f p).valid = true) (hq : listQ f (usedN f f.ps.length) = true) : Sub (needN (moreF f p) (moreF f p).ps.length) (needN f f.ps.length) := fun i hi => by
  have hn := valid_num hv
  have hnx := valid_num hvx
  have hlen : (moreF f p).ps.length = f.ps.length + 1 := by simp [moreF]
  have hwd := wid_more f p
  have hqa : listQ f (allS f.ps.length) = true := by rw [list_all]; exact hq
  have hqx : listQ (moreF f p) (usedN (moreF f p) (moreF f p).ps.length) = true := by
    have h1 := hwd.ls _ (show allS f.ps.length < 2 ^ f.ps.length by have := Nat.two_pow_pos f.ps.length; rw [allS]; omega) hqa
    rw [← list_used] at h1
    exact list_sub hvx (and_sub2 _ _) h1
  have hil := lt_of_bit (setN_lt2 _ _) hi
  rw [need_bit hvx hqx hil] at hi
  have hi2 : listQ (moreF f p) (butN (moreF f p) i) = false := by simpa using hi
  have hsub : Sub (if i < f.ps.length then butN f i else allS f.ps.length) (butN (moreF f p) i) := fun j hj => by
    split at hj
    · rename_i h
      have hjl := lt_of_bit (but_lt f i) hj
      rw [but_bit (by omega) hjl (by omega)] at hj
      rw [but_bit (by omega) (by omega) (by omega)]; exact hj
    rename_i h
    rw [all_bit, decide_eq_true_eq] at hj
    rw [but_bit (by omega) (by omega) (by omega), decide_eq_false (by omega)]; rfl
  by_cases h : i < f.ps.length
  · rw [if_pos h] at hsub
    rw [need_bit hv hq h]
    cases hb : listQ f (butN f i) with
    | false => rfl
    | true =>
      rw [list_sub hvx hsub (hwd.ls _ (but_lt f i) hb)] at hi2
      cases hi2
  rw [if_neg h] at hsub
  rw [list_sub hvx hsub (hwd.ls _ (by have := Nat.two_pow_pos f.ps.length; rw [allS]; omega) hqa)] at hi2
  cases hi2
end Go.Proofs.Ytabeeaiilanmjaa

/- Contracts of the program, case by case. -/
namespace Go.Proofs.Ytabeeaiilanmjaa
open Go.Gh
set_option maxRecDepth 100000
set_option maxHeartbeats 4000000
theorem sh_t (f : Fd) (hv : f.valid = true) (w : Nat) (hw : (setsL f).find? (listQ f) = some w) : PSpec Try.prog 20 [.agg [.list (f.ps.map pS), .int .i64 f.el, .int .i64 f.eh, .int .i64 f.nl, .int .i64 f.nh, .int .i64 f.dl, .int .i64 f.dh, .int .i64 f.dep, .int .i64 f.tm, .int .i64 f.gp]] (.ok (.tuple [.int .i64 (w : Nat), .int .i64 0])) := fun E A => p_short_t f hv w hw
theorem sh_n (f : Fd) (hv : f.valid = true) (hw : (setsL f).find? (listQ f) = none) : PSpec Try.prog 20 [.agg [.list (f.ps.map pS), .int .i64 f.el, .int .i64 f.eh, .int .i64 f.nl, .int .i64 f.nh, .int .i64 f.dl, .int .i64 f.dh, .int .i64 f.dep, .int .i64 f.tm, .int .i64 f.gp]] (.ok (.tuple [.int .i64 0, .int .i64 4])) := fun E A => p_short_n f hv hw
theorem ne_t (f : Fd) (hv : f.valid = true) (hq : (listQ f (usedN f f.ps.length)) = true) : PSpec Try.prog 24 [.agg [.list (f.ps.map pS), .int .i64 f.el, .int .i64 f.eh, .int .i64 f.nl, .int .i64 f.nh, .int .i64 f.dl, .int .i64 f.dh, .int .i64 f.dep, .int .i64 f.tm, .int .i64 f.gp]] (.ok (.tuple [.int .i64 (needN f f.ps.length : Nat), .int .i64 0])) := fun E A => p_need_t f hv hq
theorem ne_n (f : Fd) (hv : f.valid = true) (hq : (listQ f (usedN f f.ps.length)) = false) : PSpec Try.prog 24 [.agg [.list (f.ps.map pS), .int .i64 f.el, .int .i64 f.eh, .int .i64 f.nl, .int .i64 f.nh, .int .i64 f.dl, .int .i64 f.dh, .int .i64 f.dep, .int .i64 f.tm, .int .i64 f.gp]] (.ok (.tuple [.int .i64 0, .int .i64 4])) := fun E A => p_need_n f hv hq
theorem ap_t (f : Fd) (hv : f.valid = true) (hq : (listQ f (usedN f f.ps.length)) = true) : PSpec Try.prog 26 [.agg [.list (f.ps.map pS), .int .i64 f.el, .int .i64 f.eh, .int .i64 f.nl, .int .i64 f.nh, .int .i64 f.dl, .int .i64 f.dh, .int .i64 f.dep, .int .i64 f.tm, .int .i64 f.gp]] (.ok (.tuple [.list ((apL f (allS f.ps.length)).map fun e : Int × Int => P.agg [.int .i64 e.1, .int .i64 e.2]), .int .i64 0])) := fun E A => p_apart_t f hv hq
theorem ap_n (f : Fd) (hv : f.valid = true) (hq : (listQ f (usedN f f.ps.length)) = false) : PSpec Try.prog 26 [.agg [.list (f.ps.map pS), .int .i64 f.el, .int .i64 f.eh, .int .i64 f.nl, .int .i64 f.nh, .int .i64 f.dl, .int .i64 f.dh, .int .i64 f.dep, .int .i64 f.tm, .int .i64 f.gp]] (.ok (.tuple [.list [], .int .i64 4])) := fun E A => p_apart_n f hv hq
end Go.Proofs.Ytabeeaiilanmjaa

/- A rule of drawn regions: a register's truth is known. -/
namespace Go.Proofs.Ytabeeaiilanmjaa
open Go.Gh
set_option maxRecDepth 100000
variable {E : Env Try.prog} {C : Cx E} {r : Option Nat} {ops : Array Oper} {Q : GE → Sg E → Prop} {l : List (Nat × G)} {m : List (Nat × Ob)} {A : E.α} {df : List GD}
theorem drb {lo : Nat} {σ0 : Sg E} {ids : List (List Nat × List Nat)} (t : Nat) (b : Bool) {x : Bool} (hx : mkFr l t = .p (.bool x) := by (simp only [mkFr_cons, Nat.reduceEqDiff, reduceIte] <;> rfl)) (h : x = b) (k : segK C r ops (GPost C Q) lo σ0 ids (sg ((t, .p (.bool b)) :: l) m A df)) : segK C r ops (GPost C Q) lo σ0 ids (sg l m A df) := by
  subst h
  rwa [sg, mkFr_again hx] at k
end Go.Proofs.Ytabeeaiilanmjaa

/- The statement CoverMore. -/
namespace Go.Proofs.Ytabeeaiilanmjaa
open Go.Gh
set_option maxRecDepth 100000
set_option maxHeartbeats 4000000
structure kLn1 (c : Prop) : Prop where
  h : c := by (first | exact True.intro | omega | ((repeat' apply And.intro) <;> first | exact True.intro | omega | exact fp_size _ | exact ps_size _ | (simp; done) | (simp; omega)) | (simp only [inI]; omega) | (simp [P.size, pS, all_int, allOne_p, goods_p, allOne, goods, good, G.one, P.one, P.cells] <;> first | omega | assumption | simp_all))
def fP (x : Fd) : P := .agg [.list (x.ps.map pS), .int .i64 x.el, .int .i64 x.eh, .int .i64 x.nl, .int .i64 x.nh, .int .i64 x.dl, .int .i64 x.dh, .int .i64 x.dep, .int .i64 x.tm, .int .i64 x.gp]
theorem fp_size (l : List Fd) : ∀ x ∈ l.map fP, x.size = 10 := fun x hx => by
  obtain ⟨e, _, rfl⟩ := List.mem_map.1 hx; rfl
theorem ps_size (l : List Sk) : ∀ x ∈ l.map pS, x.size = 6 := fun x hx => by
  obtain ⟨e, _, rfl⟩ := List.mem_map.1 hx; rfl
structure Fiv (f : Fd) (p : Sk) (XL : List Fd) : Prop where
  len : XL.length = 5
  wid : ∀ x ∈ XL, Wid f x
  pl : ∀ x ∈ XL, x.ps.length ≤ 1048576
  fst : XL[0]? = some (moreF f p)
theorem fiv_ok {f : Fd} (hv : f.valid = true) (p : Sk) {d t g e : Int} (hd : d ≤ f.dep) (ht : t ≤ f.tm) (hg : 0 ≤ g ∧ g ≤ f.gp) (he : e ≤ f.eh) : Fiv f p [moreF f p, depF f d, tmF f t, gpF f g, ehF f e] := by
  have hn := valid_num hv
  refine ⟨rfl, fun x hx => ?_, fun x hx => ?_, rfl⟩
  · simp only [List.mem_cons, List.not_mem_nil, or_false] at hx
    rcases hx with rfl | rfl | rfl | rfl | rfl
    · exact wid_more f p
    · exact wid_dep hv hd
    · exact wid_tm ht
    · exact wid_gp hv hg.1 hg.2
    exact wid_eh he
  simp only [List.mem_cons, List.not_mem_nil, or_false] at hx
  rcases hx with rfl | rfl | rfl | rfl | rfl <;> simp only [moreF, depF, tmF, gpF, ehF, List.length_append, List.length_cons, List.length_nil] <;> omega
theorem tmod_in {a : Nat} {m : Int} (h : 0 ≤ m) : 0 ≤ (a : Int).tmod (m + 1) ∧ (a : Int).tmod (m + 1) ≤ m := by
  have h1 := Int.tmod_nonneg (m + 1) (show (0 : Int) ≤ (a : Int) by omega)
  have h2 := Int.tmod_lt_of_pos (a : Int) (show 0 < m + 1 by omega)
  omega
theorem more_nz {f x : Fd} {p : Sk} {XL : List Fd} {k : Nat} (hF : Fiv f p XL) (hv : f.valid = true) (hvx : x.valid = true) (hq : listQ f (usedN f f.ps.length) = true) (hx : XL[k]? = some x) (h : (k : Int) = 0) : bitop .andNot .i64 (needN x x.ps.length : Nat) (needN f f.ps.length : Nat) = 0 := by
  obtain rfl : k = 0 := by omega
  rw [hF.fst] at hx
  cases hx
  have h1 := valid_num hv
  have h2 := valid_num hvx
  have h3 : needN f f.ps.length < 2 ^ f.ps.length := setN_lt2 _ _
  have h4 : needN (moreF f p) (moreF f p).ps.length < 2 ^ (moreF f p).ps.length := setN_lt2 _ _
  have h5 : 2 ^ f.ps.length ≤ 2 ^ 12 := Nat.pow_le_pow_right (by omega) (by omega)
  have h6 : 2 ^ (moreF f p).ps.length ≤ 2 ^ 12 := Nat.pow_le_pow_right (by omega) (by omega)
  rw [bitop_andNot_i64 _ _ (Nat.lt_trans h4 (by omega)) (Nat.lt_trans h3 (by omega)), (sub_of (Nat.lt_trans h4 (by omega)) (Nat.lt_trans h3 (by omega))).2 (more_need hv hvx hq)]; rfl
theorem sho_q {x : Fd} (hv : x.valid = true) {v : Nat} (h : (setsL x).find? (listQ x) = some v) : listQ x (usedN x x.ps.length) = true := by
  cases hq : listQ x (usedN x x.ps.length) with
  | true => rfl
  | false => rw [(sho_none hv).2 hq] at h; cases h
theorem l_more_x (f : Fd) (p : Sk) (b : Nat) (hb : b ≤ 255) (hh : hvyQ f 9 100 = true) : PSpec Try.prog 10 [.agg [.list (f.ps.map pS), .int .i64 f.el, .int .i64 f.eh, .int .i64 f.nl, .int .i64 f.nh, .int .i64 f.dl, .int .i64 f.dh, .int .i64 f.dep, .int .i64 f.tm, .int .i64 f.gp], .agg [.int .i64 p.el, .int .i64 p.eh, .int .i64 p.nl, .int .i64 p.nh, .int .i64 p.day, .int .i64 p.dep], .int .u8 (b : Nat)] (.ok (.bool true)) := by
  refine pspec_of Try.func10 (rfl : Try.f10.body = some _) rfl ?_
  intro E A C hN hL
  replace hN : C.N = 147 := hN
  simp only [Gh.num, List.map_cons, List.map_nil, Nat.reduceAdd]
  have hdt : ∀ (i : Decidable True), @decide True i = true := fun i => decide_eq_true trivial
  have hdf : ∀ (i : Decidable False), @decide False i = false := fun i => decide_eq_false id
  have hbt : (true == true) = true := rfl
  have hbf : (false == false) = true := rfl
  have htf : (true == false) = false := rfl
  have hft : (false == true) = false := rfl
  have hpS : ∀ p : Sk, pS p = P.agg [.int .i64 p.el, .int .i64 p.eh, .int .i64 p.nl, .int .i64 p.nh, .int .i64 p.day, .int .i64 p.dep] := fun _ => rfl
  repeat refine gwp_seq ?_
  refine gwp_region ?_
  refine n1 130 false (hc := kLn1.h {}) (k := ?_)
  refine n1 140 false (hc := kLn1.h {}) (k := ?_)
  refine v0 (k := ?_)
  refine nil0 ?_
  refine cl [2, 3, 4] (k := ?_)
  repeat refine gwp_seq ?_
  repeat refine gwp_seq ?_
  refine gwp_region ?_
  refine v0 (k := ?_)
  refine pc0 (spec := l_heavy f 9 100) (hent := ent12) (k := ?_)
  refine rb 23 true (h := by (exact hh)) (k := ?_)
  refine v0 (k := ?_)
  refine x0 (k := ?_)
  refine x0 (k := ?_)
  refine x0 (k := ?_)
  refine v0 (k := ?_)
  refine rb 28 true (h := by (rfl)) (k := ?_)
  refine nil0 ?_
  repeat refine gwp_seq ?_
  refine cT (k := ?_)
  repeat refine gwp_seq ?_
  refine gwp_region ?_
  refine pc0 (spec := l_awake) (hent := ent13) (k := ?_)
  refine v0 (k := ?_)
  refine nil0 ?_
  repeat refine gwp_seq ?_
  refine gwp_ret ?_
  repeat (first | refine gthen_ret ?_ | refine gblock_ret ?_ | refine gnoGoto_ret ?_)
  refine fin_ret ?_
  refine fp (hR := ?_)
  rfl
theorem l_more_a (f : Fd) (p : Sk) (b : Nat) (hb : b ≤ 255) (hh : hvyQ f 9 100 = false) (hv : f.valid = false) : PSpec Try.prog 10 [.agg [.list (f.ps.map pS), .int .i64 f.el, .int .i64 f.eh, .int .i64 f.nl, .int .i64 f.nh, .int .i64 f.dl, .int .i64 f.dh, .int .i64 f.dep, .int .i64 f.tm, .int .i64 f.gp], .agg [.int .i64 p.el, .int .i64 p.eh, .int .i64 p.nl, .int .i64 p.nh, .int .i64 p.day, .int .i64 p.dep], .int .u8 (b : Nat)] (.ok (.bool true)) := by
  refine pspec_of Try.func10 (rfl : Try.f10.body = some _) rfl ?_
  intro E A C hN hL
  replace hN : C.N = 147 := hN
  simp only [Gh.num, List.map_cons, List.map_nil, Nat.reduceAdd]
  have hdt : ∀ (i : Decidable True), @decide True i = true := fun i => decide_eq_true trivial
  have hdf : ∀ (i : Decidable False), @decide False i = false := fun i => decide_eq_false id
  have hbt : (true == true) = true := rfl
  have hbf : (false == false) = true := rfl
  have htf : (true == false) = false := rfl
  have hft : (false == true) = false := rfl
  have hpS : ∀ p : Sk, pS p = P.agg [.int .i64 p.el, .int .i64 p.eh, .int .i64 p.nl, .int .i64 p.nh, .int .i64 p.day, .int .i64 p.dep] := fun _ => rfl
  repeat refine gwp_seq ?_
  refine gwp_region ?_
  refine n1 130 false (hc := kLn1.h {}) (k := ?_)
  refine n1 140 false (hc := kLn1.h {}) (k := ?_)
  refine v0 (k := ?_)
  refine nil0 ?_
  refine cl [2, 3, 4] (k := ?_)
  repeat refine gwp_seq ?_
  have hl : f.ps.length ≤ 1048576 := by have := hvy_len hh; omega
  repeat refine gwp_seq ?_
  refine gwp_region ?_
  refine v0 (k := ?_)
  refine pc0 (spec := l_heavy f 9 100) (hent := ent12) (k := ?_)
  refine rb 23 false (h := by (exact hh)) (k := ?_)
  refine v0 (k := ?_)
  refine w0 (k := ?_)
  refine pcw (spec := r_field f hl) (hent := ent29) (k := ?_)
  refine w0 (k := ?_)
  refine rb 27 true (h := by (rfl)) (k := ?_)
  refine v0 (k := ?_)
  refine rb 28 true (h := by (rfl)) (k := ?_)
  refine nil0 ?_
  repeat refine gwp_seq ?_
  refine cT (k := ?_)
  repeat refine gwp_seq ?_
  refine gwp_region ?_
  refine pc0 (spec := l_awake) (hent := ent13) (k := ?_)
  refine v0 (k := ?_)
  refine nil0 ?_
  repeat refine gwp_seq ?_
  refine gwp_ret ?_
  repeat (first | refine gthen_ret ?_ | refine gblock_ret ?_ | refine gnoGoto_ret ?_)
  refine fin_ret ?_
  refine fp (hR := ?_)
  rfl
theorem l_more_b (f : Fd) (p : Sk) (b : Nat) (hb : b ≤ 255) (hh : hvyQ f 9 100 = false) (hv : f.valid = true) (hw : (setsL f).find? (listQ f) = none) : PSpec Try.prog 10 [.agg [.list (f.ps.map pS), .int .i64 f.el, .int .i64 f.eh, .int .i64 f.nl, .int .i64 f.nh, .int .i64 f.dl, .int .i64 f.dh, .int .i64 f.dep, .int .i64 f.tm, .int .i64 f.gp], .agg [.int .i64 p.el, .int .i64 p.eh, .int .i64 p.nl, .int .i64 p.nh, .int .i64 p.day, .int .i64 p.dep], .int .u8 (b : Nat)] (.ok (.bool true)) := by
  refine pspec_of Try.func10 (rfl : Try.f10.body = some _) rfl ?_
  intro E A C hN hL
  replace hN : C.N = 147 := hN
  simp only [Gh.num, List.map_cons, List.map_nil, Nat.reduceAdd]
  have hdt : ∀ (i : Decidable True), @decide True i = true := fun i => decide_eq_true trivial
  have hdf : ∀ (i : Decidable False), @decide False i = false := fun i => decide_eq_false id
  have hbt : (true == true) = true := rfl
  have hbf : (false == false) = true := rfl
  have htf : (true == false) = false := rfl
  have hft : (false == true) = false := rfl
  have hpS : ∀ p : Sk, pS p = P.agg [.int .i64 p.el, .int .i64 p.eh, .int .i64 p.nl, .int .i64 p.nh, .int .i64 p.day, .int .i64 p.dep] := fun _ => rfl
  repeat refine gwp_seq ?_
  refine gwp_region ?_
  refine n1 130 false (hc := kLn1.h {}) (k := ?_)
  refine n1 140 false (hc := kLn1.h {}) (k := ?_)
  refine v0 (k := ?_)
  refine nil0 ?_
  refine cl [2, 3, 4] (k := ?_)
  repeat refine gwp_seq ?_
  have hl : f.ps.length ≤ 1048576 := by have := hvy_len hh; omega
  have hn := valid_num hv
  have hpos := Nat.two_pow_pos f.ps.length
  have h62 : 2 ^ f.ps.length ≤ 2 ^ 12 := Nat.pow_le_pow_right (by omega) (by omega)
  have hal := allS_i f.ps.length
  have hal1 := Int.le_of_eq hal
  have hal2 := Int.le_of_eq hal.symm
  have hs12 := allS_lt (n := f.ps.length) (by omega)
  have hq := (sho_none hv).1 hw
  repeat refine gwp_seq ?_
  refine gwp_region ?_
  refine v0 (k := ?_)
  refine pc0 (spec := l_heavy f 9 100) (hent := ent12) (k := ?_)
  refine rb 23 false (h := by (exact hh)) (k := ?_)
  refine v0 (k := ?_)
  refine w0 (k := ?_)
  refine pcw (spec := r_field f hl) (hent := ent29) (k := ?_)
  refine w0 (k := ?_)
  refine rb 27 false (h := by (rfl)) (k := ?_)
  refine v0 (k := ?_)
  refine rb 28 false (h := by (rfl)) (k := ?_)
  refine nil0 ?_
  repeat refine gwp_seq ?_
  refine cF (k := ?_)
  repeat refine gwp_seq ?_
  refine gwp_skip ?_
  refine cl [2, 3, 4] (k := ?_)
  repeat refine gwp_seq ?_
  refine rd ?_
  refine d0 0 (k := ?_)
  refine d0 1 (k := ?_)
  refine d0 2 (k := ?_)
  refine d0 3 (k := ?_)
  refine d0 4 (k := ?_)
  refine dn1 5 170 false (hc := kLn1.h {}) (k := ?_)
  refine dn1 6 180 false (hc := kLn1.h {}) (k := ?_)
  refine dn1 7 190 false (hc := kLn1.h {}) (k := ?_)
  refine dn1 8 200 false (hc := kLn1.h {}) (k := ?_)
  refine dn1 9 210 false (hc := kLn1.h {}) (k := ?_)
  refine ds1 10 (hc := kLn1.h {}) (k := ?_)
  refine ds1 11 (hc := kLn1.h {}) (k := ?_)
  refine ds1 12 (hc := kLn1.h {}) (k := ?_)
  refine ds1 13 (hc := kLn1.h {}) (k := ?_)
  refine ds1 14 (hc := kLn1.h {}) (k := ?_)
  refine dz 15 [0, 0, 0, 0, 0, 0, 0, 0, 0, 0, 993, 2019, 4071, 8175, 16383] (h := ?_)
  refine de 15 (h := ?_)
  refine cl [2, 3, 4, 7, 8, 9, 10, 11] (k := ?_)
  repeat refine gwp_seq ?_
  refine rd ?_
  refine dn1 0 450 false (hc := kLn1.h {}) (k := ?_)
  refine da0 1 (k := ?_)
  refine d0 2 (k := ?_)
  refine dn1 3 480 false (hc := kLn1.h {}) (k := ?_)
  refine d0 4 (k := ?_)
  refine dn1 5 500 false (hc := kLn1.h {}) (k := ?_)
  refine dn1 6 510 false (hc := kLn1.h {}) (k := ?_)
  refine da0 7 (k := ?_)
  refine ds1 8 (hc := kLn1.h {}) (k := ?_)
  refine dz 9 [0, 0, 2, 7, 0, 16, 63, 127, 255] (h := ?_)
  refine de 9 (h := ?_)
  refine cl [2, 3, 7, 8, 9, 10, 11] (k := ?_)
  repeat refine gwp_seq ?_
  obtain ⟨r, hr, hr1⟩ : ∃ r : Int, (b : Int).tmod 9 = r ∧ (0 ≤ r ∧ r ≤ 8) := ⟨_, rfl, tmod_in (m := 8) (by omega)⟩
  obtain ⟨d, hd, hd1⟩ : ∃ d, max 0 (f.dep - 1 - r) = d ∧ (d ≤ f.dep ∧ 0 ≤ d) := ⟨_, rfl, by omega⟩
  refine gwp_region ?_
  refine v0 (k := ?_)
  refine v0 (k := ?_)
  refine v1 (hc := kLn1.h {}) (k := ?_)
  refine v0 (k := ?_)
  refine v1 (hc := kLn1.h {}) (k := ?_)
  refine v1 (hc := kLn1.h {}) (k := ?_)
  refine v1 (hc := kLn1.h {}) (k := ?_)
  refine v0 (k := ?_)
  refine v0 (k := ?_)
  refine s1 (hc := kLn1.h {}) (k := ?_)
  refine nil0 ?_
  refine cl [2, 3, 7, 8, 9, 10, 11] (k := ?_)
  repeat refine gwp_seq ?_
  obtain ⟨t, ht, ht1⟩ : ∃ t, max 1 (f.tm - 1) = t ∧ (t ≤ f.tm ∧ 0 ≤ t) := ⟨_, rfl, by omega⟩
  refine gwp_region ?_
  refine v0 (k := ?_)
  refine v0 (k := ?_)
  refine v1 (hc := kLn1.h {}) (k := ?_)
  refine v0 (k := ?_)
  refine v0 (k := ?_)
  refine s1 (hc := kLn1.h {}) (k := ?_)
  refine nil0 ?_
  refine cl [2, 3, 7, 8, 9, 10, 11] (k := ?_)
  repeat refine gwp_seq ?_
  obtain ⟨s, hs, hs1⟩ : ∃ r : Int, (b : Int).tmod 50 = r ∧ (0 ≤ r ∧ r ≤ 49) := ⟨_, rfl, tmod_in (m := 49) (by omega)⟩
  obtain ⟨g, hg, hg1⟩ : ∃ g, max 0 (f.gp - 1 - s) = g ∧ (0 ≤ g ∧ g ≤ f.gp) := ⟨_, rfl, by omega⟩
  refine gwp_region ?_
  refine v0 (k := ?_)
  refine v0 (k := ?_)
  refine v1 (hc := kLn1.h {}) (k := ?_)
  refine v0 (k := ?_)
  refine v1 (hc := kLn1.h {}) (k := ?_)
  refine v1 (hc := kLn1.h {}) (k := ?_)
  refine v1 (hc := kLn1.h {}) (k := ?_)
  refine v0 (k := ?_)
  refine v0 (k := ?_)
  refine s1 (hc := kLn1.h {}) (k := ?_)
  refine nil0 ?_
  refine cl [2, 3, 7, 8, 9, 10, 11] (k := ?_)
  repeat refine gwp_seq ?_
  obtain ⟨u, hu, hu1⟩ : ∃ r : Int, (b : Int).tmod 2 = r ∧ (0 ≤ r ∧ r ≤ 1) := ⟨_, rfl, tmod_in (m := 1) (by omega)⟩
  obtain ⟨e, he, he1⟩ : ∃ e, max f.el (f.eh - 1 - u) = e ∧ (e ≤ f.eh ∧ f.el ≤ e) := ⟨_, rfl, by omega⟩
  refine gwp_region ?_
  refine v0 (k := ?_)
  refine v0 (k := ?_)
  refine v0 (k := ?_)
  refine v0 (k := ?_)
  refine v0 (k := ?_)
  refine v0 (k := ?_)
  refine v1 (hc := kLn1.h {}) (k := ?_)
  refine v0 (k := ?_)
  refine v1 (hc := kLn1.h {}) (k := ?_)
  refine v1 (hc := kLn1.h {}) (k := ?_)
  refine v1 (hc := kLn1.h {}) (k := ?_)
  refine v0 (k := ?_)
  refine v0 (k := ?_)
  refine v0 (k := ?_)
  refine s1 (hc := kLn1.h {}) (k := ?_)
  refine nil0 ?_
  refine cl [3, 7, 8, 9, 10, 11] (k := ?_)
  repeat refine gwp_seq ?_
  refine gwp_region ?_
  refine v0 (k := ?_)
  refine pc0 (spec := sh_n f hv hw) (hent := ent20) (k := ?_)
  refine v0 (k := ?_)
  refine v0 (k := ?_)
  refine v0 (k := ?_)
  refine v0 (k := ?_)
  refine v0 (k := ?_)
  refine nil0 ?_
  refine cl [3, 7, 8, 9, 10, 11, 12, 13] (k := ?_)
  repeat refine gwp_seq ?_
  refine gwp_region ?_
  refine v0 (k := ?_)
  refine pc0 (spec := ne_n f hv hq) (hent := ent24) (k := ?_)
  refine v0 (k := ?_)
  refine v0 (k := ?_)
  refine v0 (k := ?_)
  refine v0 (k := ?_)
  refine v0 (k := ?_)
  refine nil0 ?_
  refine cl [7, 8, 9, 10, 11, 12, 13, 14, 15] (k := ?_)
  repeat refine gwp_seq ?_
  obtain ⟨XL, hXL⟩ : ∃ XL, [moreF f p, depF f d, tmF f t, gpF f g, ehF f e] = XL := ⟨_, rfl⟩
  have hF : Fiv f p XL := hXL ▸ fiv_ok hv p hd1.1 ht1.1 hg1 he1.1
  refine gwp_region ?_
  refine v0 (k := ?_)
  refine v0 (k := ?_)
  refine v0 (k := ?_)
  refine v0 (k := ?_)
  refine v0 (k := ?_)
  refine n1 1050 false (hc := kLn1.h {}) (k := ?_)
  refine v0 (k := ?_)
  refine v0 (k := ?_)
  refine nil0 ?_
  refine cl [12, 13, 14, 15, 95, 96, 97] (k := ?_)
  repeat refine gwp_seq ?_
  refine gwp_block ?_
  repeat refine gwp_seq ?_
  refine gc_loop (fun mz σ => ∃ k : Nat, (k ≤ 5) ∧ mz = 5 - k ∧ σ = (sg [(12, .p (.int .i64 0)), (13, .p (.int .i64 4)), (14, .p (.int .i64 0)), (15, .p (.int .i64 4)), (95, .own 1050 5), (96, .p (.int .i64 5)), (97, .p (.int .i64 (k : Nat)))] [(1050, .arr 26 10 (XL.map fP) true)] A [] : Sg E)) ?_ (fun mz σ hI => ?_)
  · refine lbeg [12, 13, 14, 15, 95, 96, 97] (hV := ?_)
    exact ⟨_, 0, by omega, rfl, sgE rfl (by rw [← hXL]; simp only [List.map_cons, List.map_nil, fP, moreF, depF, tmF, gpF, ehF, List.map_append]; rfl)⟩
  obtain ⟨k, hk, hnn, rfl⟩ := hI
  repeat refine gwp_seq ?_
  refine gwp_region ?_
  refine v0 (k := ?_)
  refine nil0 ?_
  repeat refine gwp_seq ?_
  refine cB (k1 := fun hb1 => ?_) (k0 := fun hb1 => ?_)
  · replace hb1 := hB.h {} hb1
    try rw [eqI] at hb1
    repeat refine gwp_seq ?_
    refine gwp_skip ?_
    refine cl [12, 13, 14, 15, 95, 96, 97] (k := ?_)
    repeat refine gwp_seq ?_
    refine gwp_block ?_
    repeat refine gwp_seq ?_
    have hxlen1 := Nat.le_of_eq hF.len
    have hxlen2 := Nat.le_of_eq hF.len.symm
    obtain ⟨x, hx⟩ := getE (l := XL) (k := k) (by rw [hF.len]; exact_mod_cast (show k < 5 by omega))
    have hxm := List.mem_of_getElem? hx
    have hxl := hF.pl x hxm
    have hxw := hF.wid x hxm
    have hfx : fP x = P.agg [.list (x.ps.map pS), .int .i64 x.el, .int .i64 x.eh, .int .i64 x.nl, .int .i64 x.nh, .int .i64 x.dl, .int .i64 x.dh, .int .i64 x.dep, .int .i64 x.tm, .int .i64 x.gp] := rfl
    refine gwp_region ?_
    refine v0 (k := ?_)
    refine v1 (hc := kLn1.h {}) (k := ?_)
    refine v0 (k := ?_)
    refine n1 270 false (hc := kLn1.h {}) (k := ?_)
    refine v0 (k := ?_)
    refine s1 (hc := kLn1.h {}) (k := ?_)
    refine nil0 ?_
    refine cl [12, 13, 14, 15, 16, 17, 95, 96, 97] (k := ?_)
    repeat refine gwp_seq ?_
    rcases (by cases hvx : x.valid with | false => exact .inl rfl | true => cases hwx : (setsL x).find? (listQ x) with | none => exact .inr (.inl ⟨rfl, rfl⟩) | some v => exact .inr (.inr ⟨rfl, v, rfl⟩) : x.valid = false ∨ (x.valid = true ∧ (setsL x).find? (listQ x) = none) ∨ (x.valid = true ∧ ∃ v, (setsL x).find? (listQ x) = some v)) with hvx | ⟨hvx, hwx⟩ | ⟨hvx, v, hwx⟩
    · repeat refine gwp_seq ?_
      refine gwp_region ?_
      refine v0 (k := ?_)
      refine pc0 (spec := (by have h := r_field x hxl; rw [hvx] at h; exact h)) (hent := ent29) (k := ?_)
      refine rb 103 false (h := by (rfl)) (k := ?_)
      refine v0 (k := ?_)
      refine rb 104 true (h := by (rfl)) (k := ?_)
      refine nil0 ?_
      repeat refine gwp_seq ?_
      refine cT (k := ?_)
      repeat refine gwp_seq ?_
      refine gwp_exit ?_
      repeat (first | refine gthen_exit ?_ | refine gnoGoto_exit ?_ | refine gblock_here ?_ | refine gblock_out rfl ?_)
      refine cl [12, 13, 14, 15, 95, 96, 97] (k := ?_)
      repeat refine gwp_seq ?_
      refine gwp_region ?_
      refine v1 (hc := kLn1.h {}) (k := ?_)
      refine v0 (k := ?_)
      refine nil0 ?_
      refine lend [12, 13, 14, 15, 95, 96, 97] (h := ?_) (hV := ?_) (n' := 5 - (k + 1))
      · omega
      exact ⟨k + 1, by omega, rfl, rfl⟩
    · repeat refine gwp_seq ?_
      refine gwp_region ?_
      refine v0 (k := ?_)
      refine pc0 (spec := (by have h := r_field x hxl; rw [hvx] at h; exact h)) (hent := ent29) (k := ?_)
      refine rb 103 true (h := by (rfl)) (k := ?_)
      refine v0 (k := ?_)
      refine rb 104 false (h := by (rfl)) (k := ?_)
      refine nil0 ?_
      repeat refine gwp_seq ?_
      refine cF (k := ?_)
      repeat refine gwp_seq ?_
      refine gwp_skip ?_
      refine cl [12, 13, 14, 15, 16, 17, 95, 96, 97] (k := ?_)
      repeat refine gwp_seq ?_
      refine gwp_region ?_
      refine v0 (k := ?_)
      refine pc0 (spec := sh_n x hvx hwx) (hent := ent20) (k := ?_)
      refine v0 (k := ?_)
      refine v0 (k := ?_)
      refine v0 (k := ?_)
      refine v0 (k := ?_)
      refine v0 (k := ?_)
      refine nil0 ?_
      refine cl [12, 13, 14, 15, 16, 17, 18, 19, 95, 96, 97] (k := ?_)
      repeat refine gwp_seq ?_
      refine gwp_region ?_
      refine v0 (k := ?_)
      refine pc0 (spec := (ne_n x hvx ((sho_none hvx).1 hwx))) (hent := ent24) (k := ?_)
      refine v0 (k := ?_)
      refine v0 (k := ?_)
      refine v0 (k := ?_)
      refine v0 (k := ?_)
      refine v0 (k := ?_)
      refine nil0 ?_
      refine cl [12, 13, 14, 15, 16, 18, 19, 20, 21, 95, 96, 97] (k := ?_)
      repeat refine gwp_seq ?_
      refine gwp_region ?_
      refine v0 (k := ?_)
      refine v0 (k := ?_)
      refine v0 (k := ?_)
      refine rb 117 false (h := by (first | rfl | decide)) (k := ?_)
      refine v0 (k := ?_)
      refine w0 (k := ?_)
      refine w0 (k := ?_)
      refine rb 120 false (h := by (first | rfl | decide)) (k := ?_)
      refine w0 (k := ?_)
      refine rb 121 false (h := by (rfl)) (k := ?_)
      refine x0 (k := ?_)
      refine x0 (k := ?_)
      refine x0 (k := ?_)
      refine x1 (k := ?_)
      refine x1 (k := ?_)
      refine x1 (k := ?_)
      refine x1 (k := ?_)
      refine x1 (k := ?_)
      refine x0 (k := ?_)
      refine w0 (k := ?_)
      refine rb 131 false (h := by (rfl)) (k := ?_)
      refine v0 (k := ?_)
      refine rb 132 false (h := by (rfl)) (k := ?_)
      refine nil0 ?_
      repeat refine gwp_seq ?_
      refine cF (k := ?_)
      repeat refine gwp_seq ?_
      refine gwp_skip ?_
      refine cl [12, 13, 14, 15, 16, 20, 95, 96, 97] (k := ?_)
      repeat refine gwp_seq ?_
      refine gwp_region ?_
      refine v0 (k := ?_)
      refine v0 (k := ?_)
      refine v0 (k := ?_)
      refine b0 (k1 := fun hb2 => ?_) (k0 := fun hb2 => ?_)
      · replace hb2 := hB.h {} hb2
        try rw [eqI] at hb2
        refine w0 (k := ?_)
        refine w0 (k := ?_)
        refine rb 137 false (h := by (first | rfl | decide)) (k := ?_)
        refine v0 (k := ?_)
        refine rb 138 false (h := by (rfl)) (k := ?_)
        refine v0 (k := ?_)
        refine x0 (k := ?_)
        refine x0 (k := ?_)
        refine x0 (k := ?_)
        refine x0 (k := ?_)
        refine v0 (k := ?_)
        refine rb 144 false (h := by (rfl)) (k := ?_)
        refine nil0 ?_
        repeat refine gwp_seq ?_
        refine cF (k := ?_)
        repeat refine gwp_seq ?_
        refine gwp_skip ?_
        refine cl [12, 13, 14, 15, 95, 96, 97] (k := ?_)
        repeat refine gwp_seq ?_
        refine gwp_region ?_
        refine v1 (hc := kLn1.h {}) (k := ?_)
        refine v0 (k := ?_)
        refine nil0 ?_
        refine lend [12, 13, 14, 15, 95, 96, 97] (h := ?_) (hV := ?_) (n' := 5 - (k + 1))
        · omega
        exact ⟨k + 1, by omega, rfl, rfl⟩
      replace hb2 := hB.h {} hb2
      try rw [eqI] at hb2
      refine x0 (k := ?_)
      refine x0 (k := ?_)
      refine v0 (k := ?_)
      refine rb 138 false (h := by (rfl)) (k := ?_)
      refine v0 (k := ?_)
      refine x0 (k := ?_)
      refine x0 (k := ?_)
      refine x0 (k := ?_)
      refine x0 (k := ?_)
      refine v0 (k := ?_)
      refine rb 144 false (h := by (rfl)) (k := ?_)
      refine nil0 ?_
      repeat refine gwp_seq ?_
      refine cF (k := ?_)
      repeat refine gwp_seq ?_
      refine gwp_skip ?_
      refine cl [12, 13, 14, 15, 95, 96, 97] (k := ?_)
      repeat refine gwp_seq ?_
      refine gwp_region ?_
      refine v1 (hc := kLn1.h {}) (k := ?_)
      refine v0 (k := ?_)
      refine nil0 ?_
      refine lend [12, 13, 14, 15, 95, 96, 97] (h := ?_) (hV := ?_) (n' := 5 - (k + 1))
      · omega
      exact ⟨k + 1, by omega, rfl, rfl⟩
    have hxn := valid_num hvx
    have hxp : 2 ^ x.ps.length ≤ 2 ^ 12 := Nat.pow_le_pow_right (by omega) (by omega)
    have hSv := (sho_some hvx hwx).lt
    repeat refine gwp_seq ?_
    refine gwp_region ?_
    refine v0 (k := ?_)
    refine pc0 (spec := (by have h := r_field x hxl; rw [hvx] at h; exact h)) (hent := ent29) (k := ?_)
    refine rb 103 true (h := by (rfl)) (k := ?_)
    refine v0 (k := ?_)
    refine rb 104 false (h := by (rfl)) (k := ?_)
    refine nil0 ?_
    repeat refine gwp_seq ?_
    refine cF (k := ?_)
    repeat refine gwp_seq ?_
    refine gwp_skip ?_
    refine cl [12, 13, 14, 15, 16, 17, 95, 96, 97] (k := ?_)
    repeat refine gwp_seq ?_
    refine gwp_region ?_
    refine v0 (k := ?_)
    refine pc0 (spec := sh_t x hvx v hwx) (hent := ent20) (k := ?_)
    refine v0 (k := ?_)
    refine v0 (k := ?_)
    refine v0 (k := ?_)
    refine v0 (k := ?_)
    refine v0 (k := ?_)
    refine nil0 ?_
    refine cl [12, 13, 14, 15, 16, 17, 18, 19, 95, 96, 97] (k := ?_)
    repeat refine gwp_seq ?_
    refine gwp_region ?_
    refine v0 (k := ?_)
    refine pc0 (spec := ne_t x hvx (sho_q hvx hwx)) (hent := ent24) (k := ?_)
    refine v0 (k := ?_)
    refine v0 (k := ?_)
    refine v0 (k := ?_)
    refine v0 (k := ?_)
    refine v0 (k := ?_)
    refine nil0 ?_
    refine cl [12, 13, 14, 15, 16, 18, 19, 20, 21, 95, 96, 97] (k := ?_)
    repeat refine gwp_seq ?_
    refine gwp_region ?_
    refine v0 (k := ?_)
    refine v0 (k := ?_)
    refine v0 (k := ?_)
    refine rb 117 false (h := by (first | rfl | decide)) (k := ?_)
    refine v0 (k := ?_)
    refine w0 (k := ?_)
    refine w0 (k := ?_)
    refine rb 120 false (h := by (first | rfl | decide)) (k := ?_)
    refine w0 (k := ?_)
    refine rb 121 false (h := by (rfl)) (k := ?_)
    refine x0 (k := ?_)
    refine x0 (k := ?_)
    refine x0 (k := ?_)
    refine x1 (k := ?_)
    refine x1 (k := ?_)
    refine x1 (k := ?_)
    refine x1 (k := ?_)
    refine x1 (k := ?_)
    refine x0 (k := ?_)
    refine w0 (k := ?_)
    refine rb 131 false (h := by (rfl)) (k := ?_)
    refine v0 (k := ?_)
    refine rb 132 false (h := by (rfl)) (k := ?_)
    refine nil0 ?_
    repeat refine gwp_seq ?_
    refine cF (k := ?_)
    repeat refine gwp_seq ?_
    refine gwp_skip ?_
    refine cl [12, 13, 14, 15, 16, 20, 95, 96, 97] (k := ?_)
    repeat refine gwp_seq ?_
    refine gwp_region ?_
    refine v0 (k := ?_)
    refine v0 (k := ?_)
    refine v0 (k := ?_)
    refine b0 (k1 := fun hb3 => ?_) (k0 := fun hb3 => ?_)
    · replace hb3 := hB.h {} hb3
      try rw [eqI] at hb3
      refine w0 (k := ?_)
      refine w0 (k := ?_)
      refine rb 137 false (h := by (first | rfl | decide)) (k := ?_)
      refine v0 (k := ?_)
      refine rb 138 false (h := by (rfl)) (k := ?_)
      refine v0 (k := ?_)
      refine x0 (k := ?_)
      refine x0 (k := ?_)
      refine x0 (k := ?_)
      refine x0 (k := ?_)
      refine v0 (k := ?_)
      refine rb 144 false (h := by (rfl)) (k := ?_)
      refine nil0 ?_
      repeat refine gwp_seq ?_
      refine cF (k := ?_)
      repeat refine gwp_seq ?_
      refine gwp_skip ?_
      refine cl [12, 13, 14, 15, 95, 96, 97] (k := ?_)
      repeat refine gwp_seq ?_
      refine gwp_region ?_
      refine v1 (hc := kLn1.h {}) (k := ?_)
      refine v0 (k := ?_)
      refine nil0 ?_
      refine lend [12, 13, 14, 15, 95, 96, 97] (h := ?_) (hV := ?_) (n' := 5 - (k + 1))
      · omega
      exact ⟨k + 1, by omega, rfl, rfl⟩
    replace hb3 := hB.h {} hb3
    try rw [eqI] at hb3
    refine x0 (k := ?_)
    refine x0 (k := ?_)
    refine v0 (k := ?_)
    refine rb 138 false (h := by (rfl)) (k := ?_)
    refine v0 (k := ?_)
    refine x0 (k := ?_)
    refine x0 (k := ?_)
    refine x0 (k := ?_)
    refine x0 (k := ?_)
    refine v0 (k := ?_)
    refine rb 144 false (h := by (rfl)) (k := ?_)
    refine nil0 ?_
    repeat refine gwp_seq ?_
    refine cF (k := ?_)
    repeat refine gwp_seq ?_
    refine gwp_skip ?_
    refine cl [12, 13, 14, 15, 95, 96, 97] (k := ?_)
    repeat refine gwp_seq ?_
    refine gwp_region ?_
    refine v1 (hc := kLn1.h {}) (k := ?_)
    refine v0 (k := ?_)
    refine nil0 ?_
    refine lend [12, 13, 14, 15, 95, 96, 97] (h := ?_) (hV := ?_) (n' := 5 - (k + 1))
    · omega
    exact ⟨k + 1, by omega, rfl, rfl⟩
  replace hb1 := hB.h {} hb1
  try rw [eqI] at hb1
  repeat refine gwp_seq ?_
  refine gwp_exit ?_
  repeat (first | refine gthen_exit ?_ | refine gnoGoto_exit ?_ | refine gblock_here ?_ | refine gblock_out rfl ?_)
  refine cl [] (k := ?_)
  repeat refine gwp_seq ?_
  refine gwp_region ?_
  refine pc0 (spec := l_awake) (hent := ent13) (k := ?_)
  refine v0 (k := ?_)
  refine nil0 ?_
  repeat refine gwp_seq ?_
  refine gwp_ret ?_
  repeat (first | refine gthen_ret ?_ | refine gblock_ret ?_ | refine gnoGoto_ret ?_)
  refine fin_ret ?_
  refine fp (hR := ?_)
  rfl
theorem l_more_c (f : Fd) (p : Sk) (b : Nat) (hb : b ≤ 255) (hh : hvyQ f 9 100 = false) (hv : f.valid = true) (w : Nat) (hw : (setsL f).find? (listQ f) = some w) (hq : listQ f (usedN f f.ps.length) = true) : PSpec Try.prog 10 [.agg [.list (f.ps.map pS), .int .i64 f.el, .int .i64 f.eh, .int .i64 f.nl, .int .i64 f.nh, .int .i64 f.dl, .int .i64 f.dh, .int .i64 f.dep, .int .i64 f.tm, .int .i64 f.gp], .agg [.int .i64 p.el, .int .i64 p.eh, .int .i64 p.nl, .int .i64 p.nh, .int .i64 p.day, .int .i64 p.dep], .int .u8 (b : Nat)] (.ok (.bool true)) := by
  refine pspec_of Try.func10 (rfl : Try.f10.body = some _) rfl ?_
  intro E A C hN hL
  replace hN : C.N = 147 := hN
  simp only [Gh.num, List.map_cons, List.map_nil, Nat.reduceAdd]
  have hdt : ∀ (i : Decidable True), @decide True i = true := fun i => decide_eq_true trivial
  have hdf : ∀ (i : Decidable False), @decide False i = false := fun i => decide_eq_false id
  have hbt : (true == true) = true := rfl
  have hbf : (false == false) = true := rfl
  have htf : (true == false) = false := rfl
  have hft : (false == true) = false := rfl
  have hpS : ∀ p : Sk, pS p = P.agg [.int .i64 p.el, .int .i64 p.eh, .int .i64 p.nl, .int .i64 p.nh, .int .i64 p.day, .int .i64 p.dep] := fun _ => rfl
  repeat refine gwp_seq ?_
  refine gwp_region ?_
  refine n1 130 false (hc := kLn1.h {}) (k := ?_)
  refine n1 140 false (hc := kLn1.h {}) (k := ?_)
  refine v0 (k := ?_)
  refine nil0 ?_
  refine cl [2, 3, 4] (k := ?_)
  repeat refine gwp_seq ?_
  have hl : f.ps.length ≤ 1048576 := by have := hvy_len hh; omega
  have hn := valid_num hv
  have hpos := Nat.two_pow_pos f.ps.length
  have h62 : 2 ^ f.ps.length ≤ 2 ^ 12 := Nat.pow_le_pow_right (by omega) (by omega)
  have hal := allS_i f.ps.length
  have hal1 := Int.le_of_eq hal
  have hal2 := Int.le_of_eq hal.symm
  have hs12 := allS_lt (n := f.ps.length) (by omega)
  have hS := sho_some hv hw
  have hSl := hS.lt
  repeat refine gwp_seq ?_
  refine gwp_region ?_
  refine v0 (k := ?_)
  refine pc0 (spec := l_heavy f 9 100) (hent := ent12) (k := ?_)
  refine rb 23 false (h := by (exact hh)) (k := ?_)
  refine v0 (k := ?_)
  refine w0 (k := ?_)
  refine pcw (spec := r_field f hl) (hent := ent29) (k := ?_)
  refine w0 (k := ?_)
  refine rb 27 false (h := by (rfl)) (k := ?_)
  refine v0 (k := ?_)
  refine rb 28 false (h := by (rfl)) (k := ?_)
  refine nil0 ?_
  repeat refine gwp_seq ?_
  refine cF (k := ?_)
  repeat refine gwp_seq ?_
  refine gwp_skip ?_
  refine cl [2, 3, 4] (k := ?_)
  repeat refine gwp_seq ?_
  refine rd ?_
  refine d0 0 (k := ?_)
  refine d0 1 (k := ?_)
  refine d0 2 (k := ?_)
  refine d0 3 (k := ?_)
  refine d0 4 (k := ?_)
  refine dn1 5 170 false (hc := kLn1.h {}) (k := ?_)
  refine dn1 6 180 false (hc := kLn1.h {}) (k := ?_)
  refine dn1 7 190 false (hc := kLn1.h {}) (k := ?_)
  refine dn1 8 200 false (hc := kLn1.h {}) (k := ?_)
  refine dn1 9 210 false (hc := kLn1.h {}) (k := ?_)
  refine ds1 10 (hc := kLn1.h {}) (k := ?_)
  refine ds1 11 (hc := kLn1.h {}) (k := ?_)
  refine ds1 12 (hc := kLn1.h {}) (k := ?_)
  refine ds1 13 (hc := kLn1.h {}) (k := ?_)
  refine ds1 14 (hc := kLn1.h {}) (k := ?_)
  refine dz 15 [0, 0, 0, 0, 0, 0, 0, 0, 0, 0, 993, 2019, 4071, 8175, 16383] (h := ?_)
  refine de 15 (h := ?_)
  refine cl [2, 3, 4, 7, 8, 9, 10, 11] (k := ?_)
  repeat refine gwp_seq ?_
  refine rd ?_
  refine dn1 0 450 false (hc := kLn1.h {}) (k := ?_)
  refine da0 1 (k := ?_)
  refine d0 2 (k := ?_)
  refine dn1 3 480 false (hc := kLn1.h {}) (k := ?_)
  refine d0 4 (k := ?_)
  refine dn1 5 500 false (hc := kLn1.h {}) (k := ?_)
  refine dn1 6 510 false (hc := kLn1.h {}) (k := ?_)
  refine da0 7 (k := ?_)
  refine ds1 8 (hc := kLn1.h {}) (k := ?_)
  refine dz 9 [0, 0, 2, 7, 0, 16, 63, 127, 255] (h := ?_)
  refine de 9 (h := ?_)
  refine cl [2, 3, 7, 8, 9, 10, 11] (k := ?_)
  repeat refine gwp_seq ?_
  obtain ⟨r, hr, hr1⟩ : ∃ r : Int, (b : Int).tmod 9 = r ∧ (0 ≤ r ∧ r ≤ 8) := ⟨_, rfl, tmod_in (m := 8) (by omega)⟩
  obtain ⟨d, hd, hd1⟩ : ∃ d, max 0 (f.dep - 1 - r) = d ∧ (d ≤ f.dep ∧ 0 ≤ d) := ⟨_, rfl, by omega⟩
  refine gwp_region ?_
  refine v0 (k := ?_)
  refine v0 (k := ?_)
  refine v1 (hc := kLn1.h {}) (k := ?_)
  refine v0 (k := ?_)
  refine v1 (hc := kLn1.h {}) (k := ?_)
  refine v1 (hc := kLn1.h {}) (k := ?_)
  refine v1 (hc := kLn1.h {}) (k := ?_)
  refine v0 (k := ?_)
  refine v0 (k := ?_)
  refine s1 (hc := kLn1.h {}) (k := ?_)
  refine nil0 ?_
  refine cl [2, 3, 7, 8, 9, 10, 11] (k := ?_)
  repeat refine gwp_seq ?_
  obtain ⟨t, ht, ht1⟩ : ∃ t, max 1 (f.tm - 1) = t ∧ (t ≤ f.tm ∧ 0 ≤ t) := ⟨_, rfl, by omega⟩
  refine gwp_region ?_
  refine v0 (k := ?_)
  refine v0 (k := ?_)
  refine v1 (hc := kLn1.h {}) (k := ?_)
  refine v0 (k := ?_)
  refine v0 (k := ?_)
  refine s1 (hc := kLn1.h {}) (k := ?_)
  refine nil0 ?_
  refine cl [2, 3, 7, 8, 9, 10, 11] (k := ?_)
  repeat refine gwp_seq ?_
  obtain ⟨s, hs, hs1⟩ : ∃ r : Int, (b : Int).tmod 50 = r ∧ (0 ≤ r ∧ r ≤ 49) := ⟨_, rfl, tmod_in (m := 49) (by omega)⟩
  obtain ⟨g, hg, hg1⟩ : ∃ g, max 0 (f.gp - 1 - s) = g ∧ (0 ≤ g ∧ g ≤ f.gp) := ⟨_, rfl, by omega⟩
  refine gwp_region ?_
  refine v0 (k := ?_)
  refine v0 (k := ?_)
  refine v1 (hc := kLn1.h {}) (k := ?_)
  refine v0 (k := ?_)
  refine v1 (hc := kLn1.h {}) (k := ?_)
  refine v1 (hc := kLn1.h {}) (k := ?_)
  refine v1 (hc := kLn1.h {}) (k := ?_)
  refine v0 (k := ?_)
  refine v0 (k := ?_)
  refine s1 (hc := kLn1.h {}) (k := ?_)
  refine nil0 ?_
  refine cl [2, 3, 7, 8, 9, 10, 11] (k := ?_)
  repeat refine gwp_seq ?_
  obtain ⟨u, hu, hu1⟩ : ∃ r : Int, (b : Int).tmod 2 = r ∧ (0 ≤ r ∧ r ≤ 1) := ⟨_, rfl, tmod_in (m := 1) (by omega)⟩
  obtain ⟨e, he, he1⟩ : ∃ e, max f.el (f.eh - 1 - u) = e ∧ (e ≤ f.eh ∧ f.el ≤ e) := ⟨_, rfl, by omega⟩
  refine gwp_region ?_
  refine v0 (k := ?_)
  refine v0 (k := ?_)
  refine v0 (k := ?_)
  refine v0 (k := ?_)
  refine v0 (k := ?_)
  refine v0 (k := ?_)
  refine v1 (hc := kLn1.h {}) (k := ?_)
  refine v0 (k := ?_)
  refine v1 (hc := kLn1.h {}) (k := ?_)
  refine v1 (hc := kLn1.h {}) (k := ?_)
  refine v1 (hc := kLn1.h {}) (k := ?_)
  refine v0 (k := ?_)
  refine v0 (k := ?_)
  refine v0 (k := ?_)
  refine s1 (hc := kLn1.h {}) (k := ?_)
  refine nil0 ?_
  refine cl [3, 7, 8, 9, 10, 11] (k := ?_)
  repeat refine gwp_seq ?_
  refine gwp_region ?_
  refine v0 (k := ?_)
  refine pc0 (spec := sh_t f hv w hw) (hent := ent20) (k := ?_)
  refine v0 (k := ?_)
  refine v0 (k := ?_)
  refine v0 (k := ?_)
  refine v0 (k := ?_)
  refine v0 (k := ?_)
  refine nil0 ?_
  refine cl [3, 7, 8, 9, 10, 11, 12, 13] (k := ?_)
  repeat refine gwp_seq ?_
  refine gwp_region ?_
  refine v0 (k := ?_)
  refine pc0 (spec := ne_t f hv hq) (hent := ent24) (k := ?_)
  refine v0 (k := ?_)
  refine v0 (k := ?_)
  refine v0 (k := ?_)
  refine v0 (k := ?_)
  refine v0 (k := ?_)
  refine nil0 ?_
  refine cl [7, 8, 9, 10, 11, 12, 13, 14, 15] (k := ?_)
  repeat refine gwp_seq ?_
  obtain ⟨XL, hXL⟩ : ∃ XL, [moreF f p, depF f d, tmF f t, gpF f g, ehF f e] = XL := ⟨_, rfl⟩
  have hF : Fiv f p XL := hXL ▸ fiv_ok hv p hd1.1 ht1.1 hg1 he1.1
  refine gwp_region ?_
  refine v0 (k := ?_)
  refine v0 (k := ?_)
  refine v0 (k := ?_)
  refine v0 (k := ?_)
  refine v0 (k := ?_)
  refine n1 1050 false (hc := kLn1.h {}) (k := ?_)
  refine v0 (k := ?_)
  refine v0 (k := ?_)
  refine nil0 ?_
  refine cl [12, 13, 14, 15, 95, 96, 97] (k := ?_)
  repeat refine gwp_seq ?_
  refine gwp_block ?_
  repeat refine gwp_seq ?_
  refine gc_loop (fun mz σ => ∃ k : Nat, (k ≤ 5) ∧ mz = 5 - k ∧ σ = (sg [(12, .p (.int .i64 (w : Nat))), (13, .p (.int .i64 0)), (14, .p (.int .i64 (needN f f.ps.length : Nat))), (15, .p (.int .i64 0)), (95, .own 1050 5), (96, .p (.int .i64 5)), (97, .p (.int .i64 (k : Nat)))] [(1050, .arr 26 10 (XL.map fP) true)] A [] : Sg E)) ?_ (fun mz σ hI => ?_)
  · refine lbeg [12, 13, 14, 15, 95, 96, 97] (hV := ?_)
    exact ⟨_, 0, by omega, rfl, sgE rfl (by rw [← hXL]; simp only [List.map_cons, List.map_nil, fP, moreF, depF, tmF, gpF, ehF, List.map_append]; rfl)⟩
  obtain ⟨k, hk, hnn, rfl⟩ := hI
  repeat refine gwp_seq ?_
  refine gwp_region ?_
  refine v0 (k := ?_)
  refine nil0 ?_
  repeat refine gwp_seq ?_
  refine cB (k1 := fun hb1 => ?_) (k0 := fun hb1 => ?_)
  · replace hb1 := hB.h {} hb1
    try rw [eqI] at hb1
    repeat refine gwp_seq ?_
    refine gwp_skip ?_
    refine cl [12, 13, 14, 15, 95, 96, 97] (k := ?_)
    repeat refine gwp_seq ?_
    refine gwp_block ?_
    repeat refine gwp_seq ?_
    have hxlen1 := Nat.le_of_eq hF.len
    have hxlen2 := Nat.le_of_eq hF.len.symm
    obtain ⟨x, hx⟩ := getE (l := XL) (k := k) (by rw [hF.len]; exact_mod_cast (show k < 5 by omega))
    have hxm := List.mem_of_getElem? hx
    have hxl := hF.pl x hxm
    have hxw := hF.wid x hxm
    have hfx : fP x = P.agg [.list (x.ps.map pS), .int .i64 x.el, .int .i64 x.eh, .int .i64 x.nl, .int .i64 x.nh, .int .i64 x.dl, .int .i64 x.dh, .int .i64 x.dep, .int .i64 x.tm, .int .i64 x.gp] := rfl
    refine gwp_region ?_
    refine v0 (k := ?_)
    refine v1 (hc := kLn1.h {}) (k := ?_)
    refine v0 (k := ?_)
    refine n1 270 false (hc := kLn1.h {}) (k := ?_)
    refine v0 (k := ?_)
    refine s1 (hc := kLn1.h {}) (k := ?_)
    refine nil0 ?_
    refine cl [12, 13, 14, 15, 16, 17, 95, 96, 97] (k := ?_)
    repeat refine gwp_seq ?_
    rcases (by cases hvx : x.valid with | false => exact .inl rfl | true => exact .inr ⟨rfl, hxw.some hv hvx hS⟩ : x.valid = false ∨ (x.valid = true ∧ ∃ v, (setsL x).find? (listQ x) = some v ∧ pop v ≤ pop w)) with hvx | ⟨hvx, v, hwx, hpop⟩
    · repeat refine gwp_seq ?_
      refine gwp_region ?_
      refine v0 (k := ?_)
      refine pc0 (spec := (by have h := r_field x hxl; rw [hvx] at h; exact h)) (hent := ent29) (k := ?_)
      refine rb 103 false (h := by (rfl)) (k := ?_)
      refine v0 (k := ?_)
      refine rb 104 true (h := by (rfl)) (k := ?_)
      refine nil0 ?_
      repeat refine gwp_seq ?_
      refine cT (k := ?_)
      repeat refine gwp_seq ?_
      refine gwp_exit ?_
      repeat (first | refine gthen_exit ?_ | refine gnoGoto_exit ?_ | refine gblock_here ?_ | refine gblock_out rfl ?_)
      refine cl [12, 13, 14, 15, 95, 96, 97] (k := ?_)
      repeat refine gwp_seq ?_
      refine gwp_region ?_
      refine v1 (hc := kLn1.h {}) (k := ?_)
      refine v0 (k := ?_)
      refine nil0 ?_
      refine lend [12, 13, 14, 15, 95, 96, 97] (h := ?_) (hV := ?_) (n' := 5 - (k + 1))
      · omega
      exact ⟨k + 1, by omega, rfl, rfl⟩
    have hxn := valid_num hvx
    have hxp : 2 ^ x.ps.length ≤ 2 ^ 12 := Nat.pow_le_pow_right (by omega) (by omega)
    have hSv := (sho_some hvx hwx).lt
    repeat refine gwp_seq ?_
    refine gwp_region ?_
    refine v0 (k := ?_)
    refine pc0 (spec := (by have h := r_field x hxl; rw [hvx] at h; exact h)) (hent := ent29) (k := ?_)
    refine rb 103 true (h := by (rfl)) (k := ?_)
    refine v0 (k := ?_)
    refine rb 104 false (h := by (rfl)) (k := ?_)
    refine nil0 ?_
    repeat refine gwp_seq ?_
    refine cF (k := ?_)
    repeat refine gwp_seq ?_
    refine gwp_skip ?_
    refine cl [12, 13, 14, 15, 16, 17, 95, 96, 97] (k := ?_)
    repeat refine gwp_seq ?_
    refine gwp_region ?_
    refine v0 (k := ?_)
    refine pc0 (spec := sh_t x hvx v hwx) (hent := ent20) (k := ?_)
    refine v0 (k := ?_)
    refine v0 (k := ?_)
    refine v0 (k := ?_)
    refine v0 (k := ?_)
    refine v0 (k := ?_)
    refine nil0 ?_
    refine cl [12, 13, 14, 15, 16, 17, 18, 19, 95, 96, 97] (k := ?_)
    repeat refine gwp_seq ?_
    refine gwp_region ?_
    refine v0 (k := ?_)
    refine pc0 (spec := ne_t x hvx (sho_q hvx hwx)) (hent := ent24) (k := ?_)
    refine v0 (k := ?_)
    refine v0 (k := ?_)
    refine v0 (k := ?_)
    refine v0 (k := ?_)
    refine v0 (k := ?_)
    refine nil0 ?_
    refine cl [12, 13, 14, 15, 16, 18, 19, 20, 21, 95, 96, 97] (k := ?_)
    repeat refine gwp_seq ?_
    refine gwp_region ?_
    refine v0 (k := ?_)
    refine v0 (k := ?_)
    refine v0 (k := ?_)
    refine rb 117 false (h := by (first | rfl | decide)) (k := ?_)
    refine v0 (k := ?_)
    refine w0 (k := ?_)
    refine w0 (k := ?_)
    refine rb 120 true (h := by (first | rfl | decide)) (k := ?_)
    refine w0 (k := ?_)
    refine w0 (k := ?_)
    refine w0 (k := ?_)
    refine rb 123 false (h := by (first | rfl | decide)) (k := ?_)
    refine w0 (k := ?_)
    refine rb 124 false (h := by (rfl)) (k := ?_)
    refine w0 (k := ?_)
    refine pcw (spec := r_size v (by omega)) (hent := ent33) (k := ?_)
    refine w0 (k := ?_)
    refine pcw (spec := r_size w (by omega)) (hent := ent33) (k := ?_)
    refine w0 (k := ?_)
    refine rb 129 false (h := by (first | with_reducible rfl | exact decide_eq_false (by omega) | exact nd_f (by omega) | rfl | decide)) (k := ?_)
    refine w0 (k := ?_)
    refine rb 130 false (h := by (rfl)) (k := ?_)
    refine w0 (k := ?_)
    refine rb 131 false (h := by (rfl)) (k := ?_)
    refine v0 (k := ?_)
    refine rb 132 false (h := by (rfl)) (k := ?_)
    refine nil0 ?_
    repeat refine gwp_seq ?_
    refine cF (k := ?_)
    repeat refine gwp_seq ?_
    refine gwp_skip ?_
    refine cl [12, 13, 14, 15, 16, 20, 95, 96, 97] (k := ?_)
    repeat refine gwp_seq ?_
    refine gwp_region ?_
    refine v0 (k := ?_)
    refine v0 (k := ?_)
    refine v0 (k := ?_)
    refine b0 (k1 := fun hb2 => ?_) (k0 := fun hb2 => ?_)
    · replace hb2 := hB.h {} hb2
      try rw [eqI] at hb2
      refine w0 (k := ?_)
      refine w0 (k := ?_)
      refine rb 137 true (h := by (first | rfl | decide)) (k := ?_)
      refine v0 (k := ?_)
      refine v0 (k := ?_)
      refine w0 (k := ?_)
      refine w0 (k := ?_)
      refine w0 (k := ?_)
      refine w0 (k := ?_)
      refine rb 143 false (h := by ((rw [more_nz hF hv hvx hq hx (by omega)]; rfl))) (k := ?_)
      refine v0 (k := ?_)
      refine rb 144 false (h := by (rfl)) (k := ?_)
      refine nil0 ?_
      repeat refine gwp_seq ?_
      refine cF (k := ?_)
      repeat refine gwp_seq ?_
      refine gwp_skip ?_
      refine cl [12, 13, 14, 15, 95, 96, 97] (k := ?_)
      repeat refine gwp_seq ?_
      refine gwp_region ?_
      refine v1 (hc := kLn1.h {}) (k := ?_)
      refine v0 (k := ?_)
      refine nil0 ?_
      refine lend [12, 13, 14, 15, 95, 96, 97] (h := ?_) (hV := ?_) (n' := 5 - (k + 1))
      · omega
      exact ⟨k + 1, by omega, rfl, rfl⟩
    replace hb2 := hB.h {} hb2
    try rw [eqI] at hb2
    refine x0 (k := ?_)
    refine x0 (k := ?_)
    refine v0 (k := ?_)
    refine v0 (k := ?_)
    refine x0 (k := ?_)
    refine x0 (k := ?_)
    refine x0 (k := ?_)
    refine x0 (k := ?_)
    refine v0 (k := ?_)
    refine rb 144 false (h := by (rfl)) (k := ?_)
    refine nil0 ?_
    repeat refine gwp_seq ?_
    refine cF (k := ?_)
    repeat refine gwp_seq ?_
    refine gwp_skip ?_
    refine cl [12, 13, 14, 15, 95, 96, 97] (k := ?_)
    repeat refine gwp_seq ?_
    refine gwp_region ?_
    refine v1 (hc := kLn1.h {}) (k := ?_)
    refine v0 (k := ?_)
    refine nil0 ?_
    refine lend [12, 13, 14, 15, 95, 96, 97] (h := ?_) (hV := ?_) (n' := 5 - (k + 1))
    · omega
    exact ⟨k + 1, by omega, rfl, rfl⟩
  replace hb1 := hB.h {} hb1
  try rw [eqI] at hb1
  repeat refine gwp_seq ?_
  refine gwp_exit ?_
  repeat (first | refine gthen_exit ?_ | refine gnoGoto_exit ?_ | refine gblock_here ?_ | refine gblock_out rfl ?_)
  refine cl [] (k := ?_)
  repeat refine gwp_seq ?_
  refine gwp_region ?_
  refine pc0 (spec := l_awake) (hent := ent13) (k := ?_)
  refine v0 (k := ?_)
  refine nil0 ?_
  repeat refine gwp_seq ?_
  refine gwp_ret ?_
  repeat (first | refine gthen_ret ?_ | refine gblock_ret ?_ | refine gnoGoto_ret ?_)
  refine fin_ret ?_
  refine fp (hR := ?_)
  rfl
theorem l_more (f : Fd) (p : Sk) (b : Nat) (hb : b ≤ 255) : PSpec Try.prog 10 [.agg [.list (f.ps.map pS), .int .i64 f.el, .int .i64 f.eh, .int .i64 f.nl, .int .i64 f.nh, .int .i64 f.dl, .int .i64 f.dh, .int .i64 f.dep, .int .i64 f.tm, .int .i64 f.gp], .agg [.int .i64 p.el, .int .i64 p.eh, .int .i64 p.nl, .int .i64 p.nh, .int .i64 p.day, .int .i64 p.dep], .int .u8 (b : Nat)] (.ok (.bool true)) := by
  cases hh : hvyQ f 9 100 with
  | true => exact l_more_x f p b hb hh
  | false =>
    cases hv : f.valid with
    | false => exact l_more_a f p b hb hh hv
    | true =>
      cases hw : (setsL f).find? (listQ f) with
      | none => exact l_more_b f p b hb hh hv hw
      | some w => exact l_more_c f p b hb hh hv w hw (sho_q hv hw)
end Go.Proofs.Ytabeeaiilanmjaa

/- The statement CoverMore, for every input: the law returns true, and its arguments read as they did.  -/
namespace Go.Proofs.Ytabeeaiilanmjaa
open Go.Gh Go.ChangeShapes Go.WideShapes Go.ChangeAt Go.RowKit
set_option maxRecDepth 100000
theorem sky_of {x : P} (h : FitA (true, [.int .i64, .int .i64, .int .i64, .int .i64, .int .i64, .int .i64]) x) : ∃ p : Sk, x = .agg [.int .i64 p.el, .int .i64 p.eh, .int .i64 p.nl, .int .i64 p.nh, .int .i64 p.day, .int .i64 p.dep] := by
  simp only [FitA, Fitss, Fits] at h
  obtain ⟨cs, rfl, _, _, rfl, ⟨a1, rfl, _⟩, _, _, rfl, ⟨a2, rfl, _⟩, _, _, rfl, ⟨a3, rfl, _⟩, _, _, rfl, ⟨a4, rfl, _⟩, _, _, rfl, ⟨a5, rfl, _⟩, _, _, rfl, ⟨a6, rfl, _⟩, rfl⟩ := h
  exact ⟨⟨a1, a2, a3, a4, a5, a6⟩, rfl⟩
theorem aj_more : ∀ ps, FitAs [(true, fdSS), (true, [.int .i64, .int .i64, .int .i64, .int .i64, .int .i64, .int .i64]), (false, [.int .u8])] ps → PSpec Try.prog 10 ps (.ok (.bool true)) := fun ps h => by
  simp only [FitAs] at h
  obtain ⟨_, _, rfl, q0, _, _, rfl, q1, _, _, rfl, q2, rfl⟩ := h
  obtain ⟨f, rfl, hf⟩ := fd_of q0
  obtain ⟨p, rfl⟩ := sky_of q1
  obtain ⟨b, rfl, hb⟩ := u8_of q2
  exact l_more f p b hb
theorem more_lifted (os : Os) (started : os.Started) (H : Type) (enc : TypeId × Value → H) :
    ReturnsInHanded {} Try.checked os 10 .any (Rows.coverMoreSpec.pre6 enc Try.prog Try.f10 Rows.coverMoreRow.domain false) (Rows.coverMoreSpec.post enc Try.prog Try.f10 false true false false) := by
  refine returnsInHanded_of_change (C := Try.checked) own started (by kernel_rfl) Try.func10
    (ChangeSpec.witness6 (enc := enc) (C := Try.checked) false ⟨#[], #[.agg #[.slice none 0 0, .int .i64 0, .int .i64 0, .int .i64 0, .int .i64 0, .int .i64 0, .int .i64 0, .int .i64 0, .int .i64 0, .int .i64 0], .agg #[.int .i64 0, .int .i64 0, .int .i64 0, .int .i64 0, .int .i64 0, .int .i64 0], .int .u8 0], []⟩ 8 (by kernel_rfl) (by kernel_rfl) (by kernel_rfl) (by kernel_rfl)) ?_
  intro W base args ds gs before hval hW _ _
  exact law_post (n := 9) (ss := [(true, fdSS), (true, [.int .i64, .int .i64, .int .i64, .int .i64, .int .i64, .int .i64]), (false, [.int .u8])]) (b := 4) laidOut (by kernel_rfl) (by kernel_rfl) (by kernel_rfl) (by kernel_rfl) rfl
    (fun ds hd => by
      have hd' : ds.length = 3 := hd
      match ds, hd' with
      | [a, b, c], _ => rfl) aj_more hval hW
theorem more_holds : Rows.CoverMoreSaid :=
  OpenClaim.holds_of_wide 10 Try.f10 rfl rfl rfl rfl rfl rfl rfl ⟨rfl, rfl, rfl, rfl, rfl⟩ rfl rfl rfl rfl rfl (by kernel_rfl) Try.func10 (by kernel_rfl)
    (of_decide_eq_true (by kernel_rfl)) (by unfold Func.isWrapper; first | (rw [if_pos (by decide +kernel)]; kernel_rfl) | (rw [if_neg (by decide +kernel)]; exact ⟨rfl, rfl⟩))
    (fun os started H enc _ => more_lifted os started H enc)
end Go.Proofs.Ytabeeaiilanmjaa
