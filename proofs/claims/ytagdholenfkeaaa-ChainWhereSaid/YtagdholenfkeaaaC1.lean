/- The statement ChainWhere: the call returns true for every input, and its arguments read as before; no condition. -/
import Derived.Test.YtagdholenfkeaaaB3
set_option linter.unusedVariables false
set_option linter.unusedSimpArgs false
/- Sets by bits: what the program's sets have. -/
namespace Go.Proofs.Ytagdholenfkeaaa
open Go.Gh
theorem shr_i (w l : Nat) (hl : l ≤ 60) : (w : Int).fdiv (2 ^ min l 64) = ((w / 2 ^ l : Nat) : Int) := by
  rw [Nat.min_eq_left (by omega)]
  have : ((2 : Int) ^ l) = ((2 ^ l : Nat) : Int) := by simp
  rw [this, Int.ofNat_fdiv]
theorem and1_i (v : Nat) (h : v < 2 ^ 62) : bitop .and .i64 (v : Int) 1 = ((v % 2 : Nat) : Int) := by
  have e1 : (BitVec.ofInt 64 (v : Int)).toNat = v := by rw [BitVec.toNat_ofInt]; omega
  show IntKind.i64.wrap ((BitVec.ofInt 64 (v : Int) &&& BitVec.ofInt 64 1).toNat : Int) = _
  rw [BitVec.toNat_and, e1, show (BitVec.ofInt 64 1).toNat = 1 from rfl, Nat.and_one_is_mod]
  exact IntWalk.i64_in ((v % 2 : Nat) : Int) (by omega)
theorem bit_one {w l : Nat} : w / 2 ^ l % 2 = 1 ↔ w.testBit l = true := by
  rw [Nat.testBit_eq_decide_div_mod_eq, decide_eq_true_iff]
theorem bit_zero {w l : Nat} : w / 2 ^ l % 2 = 0 ↔ w.testBit l = false := by
  rw [Nat.testBit_eq_decide_div_mod_eq, decide_eq_false_iff_not]; omega
theorem or_bit {s k i : Nat} : (s ||| 2 ^ k).testBit i = (s.testBit i || decide (k = i)) := by
  rw [Nat.testBit_or, Nat.testBit_two_pow]
theorem lt_bit {s k i : Nat} (h : s < 2 ^ k) (hi : k ≤ i) : s.testBit i = false := Nat.testBit_lt_two_pow (Nat.lt_of_lt_of_le h (Nat.pow_le_pow_right (by omega) hi))
theorem or_lt2 {s k : Nat} (h : s < 2 ^ k) : s ||| 2 ^ k < 2 ^ (k + 1) := Nat.or_lt_two_pow (Nat.lt_trans h (Nat.pow_lt_pow_right (by omega) (by omega))) (Nat.pow_lt_pow_right (by omega) (by omega))
theorem setN_lt2 (q : Nat → Bool) : ∀ k, setN q k < 2 ^ k
  | 0 => by simp [setN]
  | k + 1 => by
    have := setN_lt2 q k
    simp only [setN]; split
    · exact or_lt2 this
    · exact Nat.lt_trans this (Nat.pow_lt_pow_right (by omega) (by omega))
theorem setN_bit (q : Nat → Bool) : ∀ k i, (setN q k).testBit i = (decide (i < k) && q i)
  | 0, i => by simp [setN]
  | k + 1, i => by
    have h := setN_bit q k i
    have hl := lt_bit (setN_lt2 q k) (Nat.le_refl k)
    simp only [setN]
    by_cases hk : q k = true
    · rw [if_pos hk, or_bit, h]
      by_cases e : k = i
      · subst e; simp [hk]
      · rw [decide_eq_false e, Bool.or_false]
        congr 1
        exact decide_eq_decide.2 (by omega)
    · rw [if_neg hk, h]
      by_cases e : k = i
      · subst e; simp [show q k = false by simpa using hk]
      · congr 1
        exact decide_eq_decide.2 (by omega)
theorem whereN_N (f : Mx) (h : Nat) (more : Int) : ∀ k, whereN f h more k = setN (fun u => decide (f h u ≤ more)) k
  | 0 => rfl
  | k + 1 => by
    rw [whereN, setN, ← whereN_N f h more k]
    by_cases hc : f h k ≤ more
    · rw [if_pos hc, if_pos (decide_eq_true hc)]
    · rw [if_neg hc, if_neg (by simp [hc])]
theorem canH_N (c : Ch) (x : Nat) : ∀ k, canH c x k = setN (fun p => (whereC c (p : Nat)).testBit x) k
  | 0 => rfl
  | k + 1 => by rw [canH, setN, ← canH_N c x k]
theorem sureH_N (c : Ch) (x : Nat) : ∀ k, sureH c x k = setN (fun p => (whereC c (p : Nat)).testBit x && decide (pop (whereC c (p : Nat)) = 1)) k
  | 0 => rfl
  | k + 1 => by
    rw [sureH, setN, ← sureH_N c x k]
    by_cases hc : (whereC c (k : Nat)).testBit x = true ∧ pop (whereC c (k : Nat)) = 1
    · rw [if_pos hc, if_pos (by rw [hc.1, decide_eq_true hc.2]; rfl)]
    · rw [if_neg hc, if_neg (fun h => hc (by simpa using h))]
theorem whereC_lt2 (c : Ch) (p : Int) : whereC c p < 2 ^ c.ps.toNat := by rw [whereC, whereN_N]; exact setN_lt2 _ _
theorem whereC_bit (c : Ch) (p : Int) (u : Nat) : (whereC c p).testBit u = (decide (u < c.ps.toNat) && decide (D (eF c.kn (-1)) (holN p c.rs c.rs.length).toNat u ≤ c.ms - leastC c)) := by rw [whereC, whereN_N, setN_bit]
theorem canH_lt2 (c : Ch) (x k : Nat) : canH c x k < 2 ^ k := by rw [canH_N]; exact setN_lt2 _ _
theorem sureH_lt2 (c : Ch) (x k : Nat) : sureH c x k < 2 ^ k := by rw [sureH_N]; exact setN_lt2 _ _
theorem canH_bit (c : Ch) (x : Nat) {k p : Nat} (h : p < k) : (canH c x k).testBit p = (whereC c (p : Nat)).testBit x := by rw [canH_N, setN_bit, decide_eq_true h, Bool.true_and]
theorem one_bit2 : ∀ l, l < 256 → ∀ x, x < 8 → (l = 2 ^ x ↔ (l.testBit x = true ∧ pop l = 1)) := by decide +kernel
theorem sureH_bit {c : Ch} (hv : c.valid = true) {x : Nat} (hx : x < 8) {k p : Nat} (h : p < k) : (sureH c x k).testBit p = decide (whereC c (p : Nat) = 2 ^ x) := by
  rw [sureH_N, setN_bit, decide_eq_true h, Bool.true_and]
  have := one_bit2 (whereC c (p : Nat)) (whereC_lt hv _) x hx
  by_cases e : whereC c (p : Nat) = 2 ^ x
  · rw [decide_eq_true e, (this.1 e).1, decide_eq_true (this.1 e).2]; rfl
  · rw [decide_eq_false e]
    cases h1 : (whereC c (p : Nat)).testBit x with
    | false => rfl
    | true =>
      rw [decide_eq_false fun h2 => e (this.2 ⟨h1, h2⟩)]; rfl
end Go.Proofs.Ytagdholenfkeaaa

/- A record more: what it takes. -/
namespace Go.Proofs.Ytagdholenfkeaaa
open Go.Gh
def Ch.snoc (c : Ch) (r : Rc) : Ch := { c with rs := c.rs ++ [r] }
theorem sel_app {p : Int} {rs : List Rc} {r : Rc} {S S' : Nat} : ∀ k, k ≤ rs.length → (∀ i, i < k → S.testBit i = S'.testBit i) → selN p S (rs ++ [r]) k = selN p S' rs k
  | 0, _, _ => rfl
  | k + 1, hk, hb => by
    have ih := sel_app (p := p) (rs := rs) (r := r) (S := S) (S' := S') k (by omega) fun i hi => hb i (by omega)
    simp only [selN]
    rw [List.getElem?_append_left (by omega), ih, hb k (by omega)]
theorem sel_snoc (p : Int) (rs : List Rc) (r : Rc) : selN p (allS (rs ++ [r]).length) (rs ++ [r]) (rs ++ [r]).length = if r.p = p then selN p (allS rs.length) rs rs.length ++ [(rs.length, r)] else selN p (allS rs.length) rs rs.length := by
  have h := sel_app (p := p) (rs := rs) (r := r) (S := allS (rs.length + 1)) (S' := allS rs.length) rs.length (Nat.le_refl _) fun i hi => by rw [all_bit (by omega), all_bit hi]
  rw [List.length_append, List.length_singleton]
  simp only [selN]
  rw [List.getElem?_append_right (Nat.le_refl _), Nat.sub_self, List.getElem?_cons_zero]
  simp only []
  rw [h, all_bit (Nat.lt_succ_self _)]
  by_cases e : r.p = p
  · rw [if_pos ⟨e, rfl⟩, if_pos e]
  · rw [if_neg (fun h => e h.1), if_neg e]
theorem steps_snoc (f : Mx) (l : List (Nat × Rc)) (e : Nat × Rc) : totV f (stepsL (l ++ [e])) = totV f (stepsL l) + f (lastH 0 l).toNat e.2.f.toNat := by
  simp only [stepsL, totV_snoc, toL_snoc, leastV]; omega
theorem last_all {p : Int} {rs : List Rc} : lastH 0 (selN p (allS rs.length) rs rs.length) = holN p rs rs.length := by
  rw [← last_hol rs.length (fun i hi => all_bit hi)]; rfl
theorem tot_snoc (f : Mx) (rs : List Rc) (r : Rc) (q : Int) : totV f (stepsL (selN q (allS (rs ++ [r]).length) (rs ++ [r]) (rs ++ [r]).length)) = totV f (stepsL (selN q (allS rs.length) rs rs.length)) + if r.p = q then f (holN q rs rs.length).toNat r.f.toNat else 0 := by
  rw [sel_snoc]
  split
  · rw [steps_snoc, last_all]
  · omega
theorem all_snoc (f : Mx) (rs : List Rc) (r : Rc) {p : Nat} (hp : r.p = p) : ∀ k, allV f (rs ++ [r]) (allS (rs ++ [r]).length) k = allV f rs (allS rs.length) k + if p < k then f (holN p rs rs.length).toNat r.f.toNat else 0
  | 0 => by simp [allV]
  | k + 1 => by
    simp only [allV]
    rw [all_snoc f rs r hp k, tot_snoc, hp]
    by_cases e : p = k
    · subst e
      rw [if_neg (by omega), if_pos rfl, if_pos (by omega)]; omega
    · rw [if_neg (show ¬ ((p : Nat) : Int) = (k : Nat) by omega)]
      by_cases h : p < k
      · rw [if_pos h, if_pos (by omega)]; omega
      · rw [if_neg h, if_neg (by omega)]; omega
theorem least_snoc (c : Ch) (r : Rc) {p : Nat} (hp : r.p = p) (hpl : (p : Int) < c.pl) : leastC (c.snoc r) = leastC c + D (eF c.kn (-1)) (holN p c.rs c.rs.length).toNat r.f.toNat := by
  have := all_snoc (D (eF c.kn (-1))) c.rs r hp c.pl.toNat
  rw [if_pos (by omega)] at this
  exact this
theorem any_snoc {α : Type} (l : List α) (x : α) (q : α → Bool) : (l ++ [x]).any q = (l.any q || q x) := by simp
theorem snoc_valid {c : Ch} (hv : c.valid = true) {r : Rc} (hl : c.rs.length ≤ 11) (hr : badR c.pl c.ps r = false) : (c.snoc r).valid = true := by
  have key : ∀ l : List Rc, ({ c with rs := l } : Ch).valid = (c.head && decide ((c.kn.length : Int) ≤ 28) && decide ((l.length : Int) ≤ 12) && !c.kn.any (badK c.ps) && !l.any (badR c.pl c.ps)) := fun l => rfl
  have h0 := key c.rs
  rw [show ({ c with rs := c.rs } : Ch) = c from rfl, hv] at h0
  have h1 := h0.symm
  rw [decide_eq_true (show ((c.rs.length : Nat) : Int) ≤ 12 by omega)] at h1
  rw [Ch.snoc, key, any_snoc, hr, Bool.or_false, decide_eq_true (show (((c.rs ++ [r]).length : Nat) : Int) ≤ 12 by rw [List.length_append, List.length_singleton]; omega)]
  exact h1
theorem rec_ok {c : Ch} {p u t : Int} (hp : 0 ≤ p ∧ p < c.pl) (hu : 0 ≤ u ∧ u < c.ps) (ht : 0 ≤ t ∧ t < c.ps) (hne : u ≠ t) : badR c.pl c.ps ⟨p, u, t⟩ = false := by
  simp only [badR]
  rw [decide_eq_true hp.1, decide_eq_true (show p ≤ c.pl - 1 by omega), decide_eq_true hu.1, decide_eq_true (show u ≤ c.ps - 1 by omega), decide_eq_true ht.1, decide_eq_true (show t ≤ c.ps - 1 by omega), decide_eq_false hne]
  rfl
theorem D_zero {e : Nat → Nat → Bool} {i k : Nat} (h : D e i k ≤ 0) : i = k := by
  obtain ⟨n, hn, hw⟩ := D_sound (e := e) (i := i) (k := k) (by simp only [NEV]; omega)
  obtain rfl : n = 0 := by omega
  exact hw
theorem hol_lt {c : Ch} (hv : c.valid = true) {p : Int} : ∀ k, 0 ≤ holN p c.rs k ∧ holN p c.rs k < c.ps
  | 0 => by have := valid_num hv; simp only [holN]; omega
  | k + 1 => by
    simp only [holN]
    split
    · rename_i r hr
      split
      · have := valid_rs hv (List.mem_of_getElem? hr); omega
      · exact hol_lt hv k
    · exact hol_lt hv k
section
variable {c : Ch} (hv : c.valid = true) (hc : leastC c ≤ c.ms) {p : Int}
include hv hc
theorem where_last : (whereC c p).testBit (holN p c.rs c.rs.length).toNat = true := by
  have h := hol_lt hv (p := p) c.rs.length
  have := (D_ok (eF c.kn (-1))).zz (holN p c.rs c.rs.length).toNat
  rw [whereC_bit, decide_eq_true (by omega), decide_eq_true (by omega)]; rfl
theorem where_pos : 1 ≤ whereC c p := by
  have h := where_last hv hc (p := p)
  cases e : whereC c p with
  | zero => rw [e, Nat.zero_testBit] at h; cases h
  | succ n => omega
theorem where_min (he : leastC c = c.ms) : whereC c p = 2 ^ (holN p c.rs c.rs.length).toNat := by
  have h := hol_lt hv (p := p) c.rs.length
  apply Nat.eq_of_testBit_eq
  intro u
  rw [Nat.testBit_two_pow]
  by_cases hu : (holN p c.rs c.rs.length).toNat = u
  · rw [decide_eq_true hu, ← hu]; exact where_last hv hc
  · rw [decide_eq_false hu, whereC_bit]
    rw [decide_eq_false (p := D (eF c.kn (-1)) (holN p c.rs c.rs.length).toNat u ≤ c.ms - leastC c) (fun h => hu (D_zero (e := eF c.kn (-1)) (by omega))), Bool.and_false]
end
end Go.Proofs.Ytagdholenfkeaaa

/- Which chains are valid, as the document asks for it. -/
namespace Go.Proofs.Ytagdholenfkeaaa
open Go.Gh
def inW (x m : Int) : Bool := decide (0 ≤ x) && decide (x ≤ IntKind.i64.wrap (m - 1))
theorem inW_eq {m : Int} (h : 1 ≤ m ∧ m ≤ 8) (x : Int) : inW x m = inQ x m := by
  rw [inW, inQ, IntWalk.i64_in (m - 1) (by omega)]
def badKW (ps : Int) (k : Kw) : Bool := !inW k.a ps || !inW k.b ps || decide (k.a = k.b)
def badRW (pl ps : Int) (r : Rc) : Bool := !inW r.p pl || !inW r.f ps || !inW r.t ps || decide (r.f = r.t)
theorem badKW_eq {ps : Int} (h : 1 ≤ ps ∧ ps ≤ 8) (k : Kw) : badKW ps k = badK ps k := by simp only [badKW, badK, inW_eq h, inQ]
theorem badRW_eq {pl ps : Int} (h : 1 ≤ ps ∧ ps ≤ 8) (g : 1 ≤ pl ∧ pl ≤ 4) (r : Rc) : badRW pl ps r = badR pl ps r := by simp only [badRW, badR, inW_eq h, inW_eq (m := pl) (by omega), inQ]
theorem head_false {c : Ch} (h : ¬ ((1 ≤ c.pl ∧ c.pl ≤ 4) ∧ (1 ≤ c.ps ∧ c.ps ≤ 8))) : c.valid = false := by
  have : c.head = false := by
    cases e : c.head with
    | false => rfl
    | true => simp only [Ch.head, Bool.and_eq_true, decide_eq_true_eq] at e; exact absurd ⟨e.1.1, e.1.2⟩ h
  simp [Ch.valid, this]
theorem valid_badK {c : Ch} {k : Nat} {x : Kw} (hx : c.kn[k]? = some x) (hb : badKW c.ps x = true) : c.valid = false := by
  by_cases h : (1 ≤ c.pl ∧ c.pl ≤ 4) ∧ (1 ≤ c.ps ∧ c.ps ≤ 8)
  · rw [badKW_eq h.2] at hb
    have : c.kn.any (badK c.ps) = true := List.any_eq_true.2 ⟨x, List.mem_of_getElem? hx, hb⟩
    simp [Ch.valid, this]
  · exact head_false h
theorem valid_badR {c : Ch} {k : Nat} {x : Rc} (hx : c.rs[k]? = some x) (hb : badRW c.pl c.ps x = true) : c.valid = false := by
  by_cases h : (1 ≤ c.pl ∧ c.pl ≤ 4) ∧ (1 ≤ c.ps ∧ c.ps ≤ 8)
  · rw [badRW_eq h.2 h.1] at hb
    have : c.rs.any (badR c.pl c.ps) = true := List.any_eq_true.2 ⟨x, List.mem_of_getElem? hx, hb⟩
    simp [Ch.valid, this]
  · exact head_false h
theorem valid_end {c : Ch} (h1 : c.kn.any (badKW c.ps) = false) (h2 : c.rs.any (badRW c.pl c.ps) = false) : c.valid = (((((decide (1 ≤ c.pl) && decide (c.pl ≤ 4)) && (decide (1 ≤ c.ps) && decide (c.ps ≤ 8))) && decide ((c.kn.length : Int) ≤ 28)) && decide ((c.rs.length : Int) ≤ 12)) && (decide (0 ≤ c.ms) && decide (c.ms ≤ 20))) := by
  by_cases h : (1 ≤ c.pl ∧ c.pl ≤ 4) ∧ (1 ≤ c.ps ∧ c.ps ≤ 8)
  · rw [show badKW c.ps = badK c.ps from funext fun k => badKW_eq h.2 k] at h1
    rw [show badRW c.pl c.ps = badR c.pl c.ps from funext fun r => badRW_eq h.2 h.1 r] at h2
    simp only [Ch.valid, Ch.head, h1, h2, Bool.not_false, Bool.and_true]
    cases decide (0 ≤ c.ms) && decide (c.ms ≤ 20) <;> simp
  · rw [head_false h]
    symm
    have : ((decide (1 ≤ c.pl) && decide (c.pl ≤ 4)) && (decide (1 ≤ c.ps) && decide (c.ps ≤ 8))) = false := by
      cases e : ((decide (1 ≤ c.pl) && decide (c.pl ≤ 4)) && (decide (1 ≤ c.ps) && decide (c.ps ≤ 8))) with
      | false => rfl
      | true => simp only [Bool.and_eq_true, decide_eq_true_eq] at e; exact absurd ⟨e.1, e.2⟩ h
    simp [this]
theorem any_step {α : Type} {l : List α} {q : α → Bool} {k : Nat} {x : α} (h : l[k]? = some x) (hx : q x = false) (ha : (l.take k).any q = false) : (l.take (k + 1)).any q = false := by
  rw [List.take_add_one, h, List.any_append, ha]; simp [hx]
theorem any_at {α : Type} {l : List α} {q : α → Bool} {k : Nat} {x : α} (h : l[k]? = some x) (hx : q x = true) : l.any q = true := List.any_eq_true.2 ⟨x, List.mem_of_getElem? h, hx⟩
end Go.Proofs.Ytagdholenfkeaaa

/- Rules of written-out states: sums that are wrapped, in regions in order. -/
namespace Go.Proofs.Ytagdholenfkeaaa
open Go.Gh
set_option maxRecDepth 100000
variable {E : Env Try.prog} {C : Cx E} {r : Option Nat} {ops : Array Oper} {Q : GE → Sg E → Prop} {rest : List Oper} {l : List (Nat × G)} {m : List (Nat × Ob)} {A : E.α} {df : List GD} {t : Nat} {ty : TypeId} {pos : String} {af : Array Edge}
theorem q0 {bo : BinOp} {t1 t2 : TypeId} {x y : Operand} {u v z : Int} (hx : gev (mkFr l) x = .p (.int .i64 u) := by (simp only [gev, ofV, mkFr_cons, Nat.reduceEqDiff, reduceIte] <;> rfl)) (hy : gev (mkFr l) y = .p (.int .i64 v) := by (simp only [gev, ofV, mkFr_cons, Nat.reduceEqDiff, reduceIte] <;> rfl)) (hb : (bo = .add ∧ z = u + v) ∨ (bo = .sub ∧ z = u - v) := by first | exact .inl ⟨rfl, rfl⟩ | exact .inr ⟨rfl, rfl⟩)
    (hd : mkHp m 99999 = .none := by (simp only [mkHp_cons, mkHp_nil, Nat.reduceEqDiff, reduceIte])) (ht : t < C.N := by omega) (k : gops C r ops Q rest (sg ((t, .p (.int .i64 (IntKind.i64.wrap z))) :: l) m A df)) :
    gops C r ops Q (⟨some t, .binOp bo t1 x y t2, ty, pos, af, none⟩ :: rest) (sg l m A df) :=
  gops_eff (eff_wrap (σ := sg l m A df) rfl hb (gwant_plain rfl) hx hy hd (by have := C.limOk; omega) (fun t' e => by cases e; exact ht)) k
end Go.Proofs.Ytagdholenfkeaaa

/- The document: which chains are valid. -/
namespace Go.Proofs.Ytagdholenfkeaaa
open Go.Gh
set_option maxRecDepth 100000
set_option maxHeartbeats 4000000
structure kWf1 (c : Prop) : Prop where
  h : c := by (first | exact True.intro | (simp only [inI]; omega) | (simp [P.size, pr, pk, all_int, allOne_p, goods_p, allOne, goods, good, G.one, P.one, P.cells] <;> first | omega | assumption | simp_all))
theorem s_inW (n m : Int) : PSpec Try.prog 50 [.int .i64 n, .int .i64 0, .int .i64 (IntKind.i64.wrap (m - 1))] (.ok (.bool (inW n m))) := s_in n 0 _
theorem ent49 : Enters Try.prog 49 := Enters.mk Try.func49 (by kernel_rfl) rfl
theorem r_plateW (c : Ch) (n : Int) : PSpec Try.prog 49 [.agg [.int .i64 c.pl, .int .i64 c.ps, .list (c.kn.map pk), .list (c.rs.map pr), .int .i64 c.ms], .int .i64 n] (.ok (.bool (inW n c.pl))) := by
  refine pspec_of Try.func49 (rfl : Try.f49.body = some _) rfl ?_
  intro E A C hN hL
  replace hN : C.N = 10 := hN
  simp only [Gh.num, List.map_cons, List.map_nil, Nat.reduceAdd]
  repeat refine gwp_seq ?_
  refine gwp_region ?_
  refine n1 120 false (hc := kWf1.h {}) (k := ?_)
  refine v0 (k := ?_)
  refine nil0 ?_
  refine cl [1, 2] (k := ?_)
  repeat refine gwp_seq ?_
  refine gwp_region ?_
  refine v0 (k := ?_)
  refine v0 (k := ?_)
  refine v0 (k := ?_)
  refine q0 (k := ?_)
  refine pc0 (spec := s_in _ _ _) (hent := ent50) (k := ?_)
  refine v0 (k := ?_)
  refine nil0 ?_
  repeat refine gwp_seq ?_
  refine gwp_ret ?_
  repeat (first | refine gthen_ret ?_ | refine gblock_ret ?_ | refine gnoGoto_ret ?_)
  refine fin_ret ?_
  refine fp (hR := ?_)
  rfl
theorem ent89 : Enters Try.prog 89 := Enters.mk Try.func89 (by kernel_rfl) rfl
theorem r_personW (c : Ch) (n : Int) : PSpec Try.prog 89 [.agg [.int .i64 c.pl, .int .i64 c.ps, .list (c.kn.map pk), .list (c.rs.map pr), .int .i64 c.ms], .int .i64 n] (.ok (.bool (inW n c.ps))) := by
  refine pspec_of Try.func89 (rfl : Try.f89.body = some _) rfl ?_
  intro E A C hN hL
  replace hN : C.N = 10 := hN
  simp only [Gh.num, List.map_cons, List.map_nil, Nat.reduceAdd]
  repeat refine gwp_seq ?_
  refine gwp_region ?_
  refine n1 120 false (hc := kWf1.h {}) (k := ?_)
  refine v0 (k := ?_)
  refine nil0 ?_
  refine cl [1, 2] (k := ?_)
  repeat refine gwp_seq ?_
  refine gwp_region ?_
  refine v0 (k := ?_)
  refine v0 (k := ?_)
  refine v0 (k := ?_)
  refine q0 (k := ?_)
  refine pc0 (spec := s_in _ _ _) (hent := ent50) (k := ?_)
  refine v0 (k := ?_)
  refine nil0 ?_
  repeat refine gwp_seq ?_
  refine gwp_ret ?_
  repeat (first | refine gthen_ret ?_ | refine gblock_ret ?_ | refine gnoGoto_ret ?_)
  refine fin_ret ?_
  refine fp (hR := ?_)
  rfl
theorem ent35 : Enters Try.prog 35 := Enters.mk Try.func35 (by kernel_rfl) rfl
theorem r_chain (c : Ch) (h1 : c.kn.length ≤ 1048576) (h2 : c.rs.length ≤ 1048576) : PSpec Try.prog 35 [.agg [.int .i64 c.pl, .int .i64 c.ps, .list (c.kn.map pk), .list (c.rs.map pr), .int .i64 c.ms]] (.ok (.bool c.valid)) := by
  refine pspec_of Try.func35 (rfl : Try.f35.body = some _) rfl ?_
  intro E A C hN hL
  replace hN : C.N = 103 := hN
  simp only [Gh.num, List.map_cons, List.map_nil, Nat.reduceAdd]
  have hpk : ∀ k : Kw, pk k = P.agg [.int .i64 k.a, .int .i64 k.b] := fun _ => rfl
  have hpr : ∀ r : Rc, pr r = P.agg [.int .i64 r.p, .int .i64 r.f, .int .i64 r.t] := fun _ => rfl
  repeat refine gwp_seq ?_
  refine gwp_region ?_
  refine n1 110 false (hc := kWf1.h {}) (k := ?_)
  refine v0 (k := ?_)
  refine nil0 ?_
  refine cl [1] (k := ?_)
  repeat refine gwp_seq ?_
  refine gwp_region ?_
  refine v0 (k := ?_)
  refine nil0 ?_
  refine cl [1, 3] (k := ?_)
  repeat refine gwp_seq ?_
  refine gwp_block ?_
  repeat refine gwp_seq ?_
  refine gc_loop (fun mz σ => ∃ k : Nat, (k ≤ c.kn.length) ∧ ((c.kn.take k).any (badKW c.ps) = false) ∧ mz = c.kn.length - k ∧ σ = (sg [(1, .ref 110 0), (3, .p (.int .i64 (k : Nat)))] [(110, .cells [.p (.int .i64 c.pl), .p (.int .i64 c.ps), .p (.list (c.kn.map pk)), .p (.list (c.rs.map pr)), .p (.int .i64 c.ms)] 0)] A [] : Sg E)) ?_ (fun mz σ hI => ?_)
  · refine lbeg [1, 3] (hV := ?_)
    exact ⟨_, 0, by omega, rfl, rfl, rfl⟩
  obtain ⟨k, hk, ha, hnn, rfl⟩ := hI
  repeat refine gwp_seq ?_
  refine gwp_region ?_
  refine v0 (k := ?_)
  refine v0 (k := ?_)
  refine v0 (k := ?_)
  refine v0 (k := ?_)
  refine v0 (k := ?_)
  refine nil0 ?_
  repeat refine gwp_seq ?_
  refine cB (k1 := fun hb1 => ?_) (k0 := fun hb1 => ?_)
  · replace hb1 := hB.h {} hb1
    repeat refine gwp_seq ?_
    refine gwp_skip ?_
    refine cl [1, 3] (k := ?_)
    repeat refine gwp_seq ?_
    refine gwp_block ?_
    repeat refine gwp_seq ?_
    obtain ⟨z, hz⟩ := getE (l := c.kn) (k := k) (by omega)
    refine gwp_region ?_
    refine v0 (k := ?_)
    refine v0 (k := ?_)
    refine v0 (k := ?_)
    refine v1 (hc := kWf1.h {}) (k := ?_)
    refine v0 (k := ?_)
    refine n1 140 false (hc := kWf1.h {}) (k := ?_)
    refine s1 (hc := kWf1.h {}) (k := ?_)
    refine nil0 ?_
    refine cl [1, 3, 4] (k := ?_)
    repeat refine gwp_seq ?_
    refine gwp_region ?_
    refine v0 (k := ?_)
    refine v1 (hc := kWf1.h {}) (k := ?_)
    refine v0 (k := ?_)
    refine pc0 (spec := r_personW c _) (hent := ent89) (k := ?_)
    refine v0 (k := ?_)
    refine v0 (k := ?_)
    refine b0 (k1 := fun hb2 => ?_) (k0 := fun hb2 => ?_)
    · replace hb2 := hB.h {} hb2
      refine x0 (k := ?_)
      refine x0 (k := ?_)
      refine x0 (k := ?_)
      refine x0 (k := ?_)
      refine x0 (k := ?_)
      refine v0 (k := ?_)
      refine v0 (k := ?_)
      refine x0 (k := ?_)
      refine x0 (k := ?_)
      refine x0 (k := ?_)
      refine x0 (k := ?_)
      refine x0 (k := ?_)
      refine v0 (k := ?_)
      refine nil0 ?_
      repeat refine gwp_seq ?_
      refine cT (k := ?_)
      repeat refine gwp_seq ?_
      refine gwp_region ?_
      refine v0 (k := ?_)
      refine nil0 ?_
      repeat refine gwp_seq ?_
      refine gwp_ret ?_
      repeat (first | refine gthen_ret ?_ | refine gblock_ret ?_ | refine gnoGoto_ret ?_)
      refine fin_ret ?_
      refine fp (hR := ?_)
      first
      | (rw [valid_badK hz (by simp only [badKW]; simp [*]; done)]; rfl)
      | (rw [valid_badR hw (by simp only [badRW]; simp [*]; done)]; rfl)
      | (rw [valid_end ha hr]
         simp only [PRes.at, GRes.ok.injEq, G.p.injEq, P.bool.injEq, and_true]
         first | (simp [*]; done) | (symm; simp; omega) | (simp; omega))
    · replace hb2 := hB.h {} hb2
      refine w0 (k := ?_)
      refine w1 (hc := kWf1.h {}) (k := ?_)
      refine w0 (k := ?_)
      refine pcw (spec := r_personW c _) (hent := ent89) (k := ?_)
      refine w0 (k := ?_)
      refine v0 (k := ?_)
      refine v0 (k := ?_)
      refine b0 (k1 := fun hb3 => ?_) (k0 := fun hb3 => ?_)
      · replace hb3 := hB.h {} hb3
        refine x0 (k := ?_)
        refine x0 (k := ?_)
        refine x0 (k := ?_)
        refine x0 (k := ?_)
        refine x0 (k := ?_)
        refine v0 (k := ?_)
        refine nil0 ?_
        repeat refine gwp_seq ?_
        refine cT (k := ?_)
        repeat refine gwp_seq ?_
        refine gwp_region ?_
        refine v0 (k := ?_)
        refine nil0 ?_
        repeat refine gwp_seq ?_
        refine gwp_ret ?_
        repeat (first | refine gthen_ret ?_ | refine gblock_ret ?_ | refine gnoGoto_ret ?_)
        refine fin_ret ?_
        refine fp (hR := ?_)
        first
        | (rw [valid_badK hz (by simp only [badKW]; simp [*]; done)]; rfl)
        | (rw [valid_badR hw (by simp only [badRW]; simp [*]; done)]; rfl)
        | (rw [valid_end ha hr]
           simp only [PRes.at, GRes.ok.injEq, G.p.injEq, P.bool.injEq, and_true]
           first | (simp [*]; done) | (symm; simp; omega) | (simp; omega))
      · replace hb3 := hB.h {} hb3
        refine w1 (hc := kWf1.h {}) (k := ?_)
        refine w0 (k := ?_)
        refine w1 (hc := kWf1.h {}) (k := ?_)
        refine w0 (k := ?_)
        refine w0 (k := ?_)
        refine v0 (k := ?_)
        refine nil0 ?_
        repeat refine gwp_seq ?_
        refine cB (k1 := fun hb4 => ?_) (k0 := fun hb4 => ?_)
        · replace hb4 := hB.h {} hb4
          repeat refine gwp_seq ?_
          refine gwp_region ?_
          refine v0 (k := ?_)
          refine nil0 ?_
          repeat refine gwp_seq ?_
          refine gwp_ret ?_
          repeat (first | refine gthen_ret ?_ | refine gblock_ret ?_ | refine gnoGoto_ret ?_)
          refine fin_ret ?_
          refine fp (hR := ?_)
          first
          | (rw [valid_badK hz (by simp only [badKW]; simp [*]; done)]; rfl)
          | (rw [valid_badR hw (by simp only [badRW]; simp [*]; done)]; rfl)
          | (rw [valid_end ha hr]
             simp only [PRes.at, GRes.ok.injEq, G.p.injEq, P.bool.injEq, and_true]
             first | (simp [*]; done) | (symm; simp; omega) | (simp; omega))
        · replace hb4 := hB.h {} hb4
          repeat refine gwp_seq ?_
          refine gwp_skip ?_
          refine cl [1, 3] (k := ?_)
          repeat refine gwp_seq ?_
          refine gwp_region ?_
          refine v0 (k := ?_)
          refine v1 (hc := kWf1.h {}) (k := ?_)
          refine v0 (k := ?_)
          refine nil0 ?_
          refine lend [1, 3] (h := ?_) (hV := ?_) (n' := c.kn.length - (k + 1))
          · omega
          exact ⟨k + 1, by omega, any_step hz (by simp only [badKW]; simp [*]; done) ha, rfl, rfl⟩
  · replace hb1 := hB.h {} hb1
    repeat refine gwp_seq ?_
    refine gwp_exit ?_
    repeat (first | refine gthen_exit ?_ | refine gnoGoto_exit ?_ | refine gblock_here ?_ | refine gblock_out rfl ?_)
    refine cl [1] (k := ?_)
    repeat refine gwp_seq ?_
    obtain rfl : k = c.kn.length := by omega
    rw [List.take_length] at ha
    refine gwp_region ?_
    refine v0 (k := ?_)
    refine nil0 ?_
    refine cl [1, 5] (k := ?_)
    repeat refine gwp_seq ?_
    refine gwp_block ?_
    repeat refine gwp_seq ?_
    refine gc_loop (fun mz σ => ∃ k : Nat, (k ≤ c.rs.length) ∧ ((c.rs.take k).any (badRW c.pl c.ps) = false) ∧ mz = c.rs.length - k ∧ σ = (sg [(1, .ref 110 0), (5, .p (.int .i64 (k : Nat)))] [(110, .cells [.p (.int .i64 c.pl), .p (.int .i64 c.ps), .p (.list (c.kn.map pk)), .p (.list (c.rs.map pr)), .p (.int .i64 c.ms)] 0)] A [] : Sg E)) ?_ (fun mz σ hI => ?_)
    · refine lbeg [1, 5] (hV := ?_)
      exact ⟨_, 0, by omega, rfl, rfl, rfl⟩
    obtain ⟨k, hk, hr, hnn, rfl⟩ := hI
    repeat refine gwp_seq ?_
    refine gwp_region ?_
    refine v0 (k := ?_)
    refine v0 (k := ?_)
    refine v0 (k := ?_)
    refine v0 (k := ?_)
    refine v0 (k := ?_)
    refine nil0 ?_
    repeat refine gwp_seq ?_
    refine cB (k1 := fun hb5 => ?_) (k0 := fun hb5 => ?_)
    · replace hb5 := hB.h {} hb5
      repeat refine gwp_seq ?_
      refine gwp_skip ?_
      refine cl [1, 5] (k := ?_)
      repeat refine gwp_seq ?_
      refine gwp_block ?_
      repeat refine gwp_seq ?_
      obtain ⟨w, hw⟩ := getE (l := c.rs) (k := k) (by omega)
      refine gwp_region ?_
      refine v0 (k := ?_)
      refine v0 (k := ?_)
      refine v0 (k := ?_)
      refine v1 (hc := kWf1.h {}) (k := ?_)
      refine v0 (k := ?_)
      refine n1 160 false (hc := kWf1.h {}) (k := ?_)
      refine s1 (hc := kWf1.h {}) (k := ?_)
      refine nil0 ?_
      refine cl [1, 5, 6] (k := ?_)
      repeat refine gwp_seq ?_
      refine gwp_region ?_
      refine v0 (k := ?_)
      refine v0 (k := ?_)
      refine v0 (k := ?_)
      refine v0 (k := ?_)
      refine q0 (k := ?_)
      refine pc0 (spec := s_inW w.p c.pl) (hent := ent50) (k := ?_)
      refine v0 (k := ?_)
      refine v0 (k := ?_)
      refine b0 (k1 := fun hb6 => ?_) (k0 := fun hb6 => ?_)
      · replace hb6 := hB.h {} hb6
        refine x0 (k := ?_)
        refine x0 (k := ?_)
        refine x0 (k := ?_)
        refine x0 (k := ?_)
        refine x0 (k := ?_)
        refine v0 (k := ?_)
        refine v0 (k := ?_)
        refine x0 (k := ?_)
        refine x0 (k := ?_)
        refine x0 (k := ?_)
        refine x0 (k := ?_)
        refine x0 (k := ?_)
        refine v0 (k := ?_)
        refine v0 (k := ?_)
        refine x0 (k := ?_)
        refine x0 (k := ?_)
        refine x0 (k := ?_)
        refine x0 (k := ?_)
        refine x0 (k := ?_)
        refine v0 (k := ?_)
        refine nil0 ?_
        repeat refine gwp_seq ?_
        refine cT (k := ?_)
        repeat refine gwp_seq ?_
        refine gwp_region ?_
        refine v0 (k := ?_)
        refine nil0 ?_
        repeat refine gwp_seq ?_
        refine gwp_ret ?_
        repeat (first | refine gthen_ret ?_ | refine gblock_ret ?_ | refine gnoGoto_ret ?_)
        refine fin_ret ?_
        refine fp (hR := ?_)
        first
        | (rw [valid_badK hz (by simp only [badKW]; simp [*]; done)]; rfl)
        | (rw [valid_badR hw (by simp only [badRW]; simp [*]; done)]; rfl)
        | (rw [valid_end ha hr]
           simp only [PRes.at, GRes.ok.injEq, G.p.injEq, P.bool.injEq, and_true]
           first | (simp [*]; done) | (symm; simp; omega) | (simp; omega))
      · replace hb6 := hB.h {} hb6
        refine w0 (k := ?_)
        refine w0 (k := ?_)
        refine w0 (k := ?_)
        refine pcw (spec := r_personW c _) (hent := ent89) (k := ?_)
        refine w0 (k := ?_)
        refine v0 (k := ?_)
        refine v0 (k := ?_)
        refine b0 (k1 := fun hb7 => ?_) (k0 := fun hb7 => ?_)
        · replace hb7 := hB.h {} hb7
          refine x0 (k := ?_)
          refine x0 (k := ?_)
          refine x0 (k := ?_)
          refine x0 (k := ?_)
          refine x0 (k := ?_)
          refine v0 (k := ?_)
          refine v0 (k := ?_)
          refine x0 (k := ?_)
          refine x0 (k := ?_)
          refine x0 (k := ?_)
          refine x0 (k := ?_)
          refine x0 (k := ?_)
          refine v0 (k := ?_)
          refine nil0 ?_
          repeat refine gwp_seq ?_
          refine cT (k := ?_)
          repeat refine gwp_seq ?_
          refine gwp_region ?_
          refine v0 (k := ?_)
          refine nil0 ?_
          repeat refine gwp_seq ?_
          refine gwp_ret ?_
          repeat (first | refine gthen_ret ?_ | refine gblock_ret ?_ | refine gnoGoto_ret ?_)
          refine fin_ret ?_
          refine fp (hR := ?_)
          first
          | (rw [valid_badK hz (by simp only [badKW]; simp [*]; done)]; rfl)
          | (rw [valid_badR hw (by simp only [badRW]; simp [*]; done)]; rfl)
          | (rw [valid_end ha hr]
             simp only [PRes.at, GRes.ok.injEq, G.p.injEq, P.bool.injEq, and_true]
             first | (simp [*]; done) | (symm; simp; omega) | (simp; omega))
        · replace hb7 := hB.h {} hb7
          refine w0 (k := ?_)
          refine w0 (k := ?_)
          refine w0 (k := ?_)
          refine pcw (spec := r_personW c _) (hent := ent89) (k := ?_)
          refine w0 (k := ?_)
          refine v0 (k := ?_)
          refine v0 (k := ?_)
          refine b0 (k1 := fun hb8 => ?_) (k0 := fun hb8 => ?_)
          · replace hb8 := hB.h {} hb8
            refine x0 (k := ?_)
            refine x0 (k := ?_)
            refine x0 (k := ?_)
            refine x0 (k := ?_)
            refine x0 (k := ?_)
            refine v0 (k := ?_)
            refine nil0 ?_
            repeat refine gwp_seq ?_
            refine cT (k := ?_)
            repeat refine gwp_seq ?_
            refine gwp_region ?_
            refine v0 (k := ?_)
            refine nil0 ?_
            repeat refine gwp_seq ?_
            refine gwp_ret ?_
            repeat (first | refine gthen_ret ?_ | refine gblock_ret ?_ | refine gnoGoto_ret ?_)
            refine fin_ret ?_
            refine fp (hR := ?_)
            first
            | (rw [valid_badK hz (by simp only [badKW]; simp [*]; done)]; rfl)
            | (rw [valid_badR hw (by simp only [badRW]; simp [*]; done)]; rfl)
            | (rw [valid_end ha hr]
               simp only [PRes.at, GRes.ok.injEq, G.p.injEq, P.bool.injEq, and_true]
               first | (simp [*]; done) | (symm; simp; omega) | (simp; omega))
          · replace hb8 := hB.h {} hb8
            refine w0 (k := ?_)
            refine w0 (k := ?_)
            refine w0 (k := ?_)
            refine w0 (k := ?_)
            refine w0 (k := ?_)
            refine v0 (k := ?_)
            refine nil0 ?_
            repeat refine gwp_seq ?_
            refine cB (k1 := fun hb9 => ?_) (k0 := fun hb9 => ?_)
            · replace hb9 := hB.h {} hb9
              repeat refine gwp_seq ?_
              refine gwp_region ?_
              refine v0 (k := ?_)
              refine nil0 ?_
              repeat refine gwp_seq ?_
              refine gwp_ret ?_
              repeat (first | refine gthen_ret ?_ | refine gblock_ret ?_ | refine gnoGoto_ret ?_)
              refine fin_ret ?_
              refine fp (hR := ?_)
              first
              | (rw [valid_badK hz (by simp only [badKW]; simp [*]; done)]; rfl)
              | (rw [valid_badR hw (by simp only [badRW]; simp [*]; done)]; rfl)
              | (rw [valid_end ha hr]
                 simp only [PRes.at, GRes.ok.injEq, G.p.injEq, P.bool.injEq, and_true]
                 first | (simp [*]; done) | (symm; simp; omega) | (simp; omega))
            · replace hb9 := hB.h {} hb9
              repeat refine gwp_seq ?_
              refine gwp_skip ?_
              refine cl [1, 5] (k := ?_)
              repeat refine gwp_seq ?_
              refine gwp_region ?_
              refine v0 (k := ?_)
              refine v1 (hc := kWf1.h {}) (k := ?_)
              refine v0 (k := ?_)
              refine nil0 ?_
              refine lend [1, 5] (h := ?_) (hV := ?_) (n' := c.rs.length - (k + 1))
              · omega
              exact ⟨k + 1, by omega, any_step hw (by simp only [badRW]; simp [*]; done) hr, rfl, rfl⟩
    · replace hb5 := hB.h {} hb5
      repeat refine gwp_seq ?_
      refine gwp_exit ?_
      repeat (first | refine gthen_exit ?_ | refine gnoGoto_exit ?_ | refine gblock_here ?_ | refine gblock_out rfl ?_)
      refine cl [1] (k := ?_)
      repeat refine gwp_seq ?_
      obtain rfl : k = c.rs.length := by omega
      rw [List.take_length] at hr
      refine gwp_region ?_
      refine v0 (k := ?_)
      refine v0 (k := ?_)
      refine pc0 (spec := s_in _ _ _) (hent := ent50) (k := ?_)
      refine v0 (k := ?_)
      refine b0 (k1 := fun hb10 => ?_) (k0 := fun hb10 => ?_)
      · replace hb10 := hB.h {} hb10
        refine w0 (k := ?_)
        refine w0 (k := ?_)
        refine pcw (spec := s_in _ _ _) (hent := ent50) (k := ?_)
        refine v0 (k := ?_)
        refine v0 (k := ?_)
        refine b0 (k1 := fun hb11 => ?_) (k0 := fun hb11 => ?_)
        · replace hb11 := hB.h {} hb11
          refine w0 (k := ?_)
          refine w0 (k := ?_)
          refine w0 (k := ?_)
          refine w0 (k := ?_)
          refine v0 (k := ?_)
          refine v0 (k := ?_)
          refine b0 (k1 := fun hb12 => ?_) (k0 := fun hb12 => ?_)
          · replace hb12 := hB.h {} hb12
            refine w0 (k := ?_)
            refine w0 (k := ?_)
            refine w0 (k := ?_)
            refine w0 (k := ?_)
            refine v0 (k := ?_)
            refine v0 (k := ?_)
            refine b0 (k1 := fun hb13 => ?_) (k0 := fun hb13 => ?_)
            · replace hb13 := hB.h {} hb13
              refine w0 (k := ?_)
              refine w0 (k := ?_)
              refine pcw (spec := s_in _ _ _) (hent := ent50) (k := ?_)
              refine v0 (k := ?_)
              refine v0 (k := ?_)
              refine nil0 ?_
              repeat refine gwp_seq ?_
              refine gwp_ret ?_
              repeat (first | refine gthen_ret ?_ | refine gblock_ret ?_ | refine gnoGoto_ret ?_)
              refine fin_ret ?_
              refine fp (hR := ?_)
              first
              | (rw [valid_badK hz (by simp only [badKW]; simp [*]; done)]; rfl)
              | (rw [valid_badR hw (by simp only [badRW]; simp [*]; done)]; rfl)
              | (rw [valid_end ha hr]
                 simp only [PRes.at, GRes.ok.injEq, G.p.injEq, P.bool.injEq, and_true]
                 first | (simp [*]; done) | (symm; simp; omega) | (simp; omega))
            · replace hb13 := hB.h {} hb13
              refine x0 (k := ?_)
              refine x0 (k := ?_)
              refine x0 (k := ?_)
              refine v0 (k := ?_)
              refine v0 (k := ?_)
              refine nil0 ?_
              repeat refine gwp_seq ?_
              refine gwp_ret ?_
              repeat (first | refine gthen_ret ?_ | refine gblock_ret ?_ | refine gnoGoto_ret ?_)
              refine fin_ret ?_
              refine fp (hR := ?_)
              first
              | (rw [valid_badK hz (by simp only [badKW]; simp [*]; done)]; rfl)
              | (rw [valid_badR hw (by simp only [badRW]; simp [*]; done)]; rfl)
              | (rw [valid_end ha hr]
                 simp only [PRes.at, GRes.ok.injEq, G.p.injEq, P.bool.injEq, and_true]
                 first | (simp [*]; done) | (symm; simp; omega) | (simp; omega))
          · replace hb12 := hB.h {} hb12
            refine x0 (k := ?_)
            refine x0 (k := ?_)
            refine x0 (k := ?_)
            refine x0 (k := ?_)
            refine v0 (k := ?_)
            refine v0 (k := ?_)
            refine x0 (k := ?_)
            refine x0 (k := ?_)
            refine x0 (k := ?_)
            refine v0 (k := ?_)
            refine v0 (k := ?_)
            refine nil0 ?_
            repeat refine gwp_seq ?_
            refine gwp_ret ?_
            repeat (first | refine gthen_ret ?_ | refine gblock_ret ?_ | refine gnoGoto_ret ?_)
            refine fin_ret ?_
            refine fp (hR := ?_)
            first
            | (rw [valid_badK hz (by simp only [badKW]; simp [*]; done)]; rfl)
            | (rw [valid_badR hw (by simp only [badRW]; simp [*]; done)]; rfl)
            | (rw [valid_end ha hr]
               simp only [PRes.at, GRes.ok.injEq, G.p.injEq, P.bool.injEq, and_true]
               first | (simp [*]; done) | (symm; simp; omega) | (simp; omega))
        · replace hb11 := hB.h {} hb11
          refine x0 (k := ?_)
          refine x0 (k := ?_)
          refine x0 (k := ?_)
          refine x0 (k := ?_)
          refine v0 (k := ?_)
          refine v0 (k := ?_)
          refine x0 (k := ?_)
          refine x0 (k := ?_)
          refine x0 (k := ?_)
          refine x0 (k := ?_)
          refine v0 (k := ?_)
          refine v0 (k := ?_)
          refine x0 (k := ?_)
          refine x0 (k := ?_)
          refine x0 (k := ?_)
          refine v0 (k := ?_)
          refine v0 (k := ?_)
          refine nil0 ?_
          repeat refine gwp_seq ?_
          refine gwp_ret ?_
          repeat (first | refine gthen_ret ?_ | refine gblock_ret ?_ | refine gnoGoto_ret ?_)
          refine fin_ret ?_
          refine fp (hR := ?_)
          first
          | (rw [valid_badK hz (by simp only [badKW]; simp [*]; done)]; rfl)
          | (rw [valid_badR hw (by simp only [badRW]; simp [*]; done)]; rfl)
          | (rw [valid_end ha hr]
             simp only [PRes.at, GRes.ok.injEq, G.p.injEq, P.bool.injEq, and_true]
             first | (simp [*]; done) | (symm; simp; omega) | (simp; omega))
      · replace hb10 := hB.h {} hb10
        refine x0 (k := ?_)
        refine x0 (k := ?_)
        refine x0 (k := ?_)
        refine v0 (k := ?_)
        refine v0 (k := ?_)
        refine x0 (k := ?_)
        refine x0 (k := ?_)
        refine x0 (k := ?_)
        refine x0 (k := ?_)
        refine v0 (k := ?_)
        refine v0 (k := ?_)
        refine x0 (k := ?_)
        refine x0 (k := ?_)
        refine x0 (k := ?_)
        refine x0 (k := ?_)
        refine v0 (k := ?_)
        refine v0 (k := ?_)
        refine x0 (k := ?_)
        refine x0 (k := ?_)
        refine x0 (k := ?_)
        refine v0 (k := ?_)
        refine v0 (k := ?_)
        refine nil0 ?_
        repeat refine gwp_seq ?_
        refine gwp_ret ?_
        repeat (first | refine gthen_ret ?_ | refine gblock_ret ?_ | refine gnoGoto_ret ?_)
        refine fin_ret ?_
        refine fp (hR := ?_)
        first
        | (rw [valid_badK hz (by simp only [badKW]; simp [*]; done)]; rfl)
        | (rw [valid_badR hw (by simp only [badRW]; simp [*]; done)]; rfl)
        | (rw [valid_end ha hr]
           simp only [PRes.at, GRes.ok.injEq, G.p.injEq, P.bool.injEq, and_true]
           first | (simp [*]; done) | (symm; simp; omega) | (simp; omega))
end Go.Proofs.Ytagdholenfkeaaa

/- What the statements leave out. -/
namespace Go.Proofs.Ytagdholenfkeaaa
open Go.Gh
set_option maxRecDepth 100000
set_option maxHeartbeats 4000000
structure kWm1 (c : Prop) : Prop where
  h : c := by (first | exact True.intro | (simp only [inI]; omega) | (simp [P.size, pr, pk, all_int, allOne_p, goods_p, allOne, goods, good, G.one, P.one, P.cells] <;> first | omega | assumption | simp_all))
/-- Is there far too much of something? -/
def greatB (c : Ch) (n : Int) : Bool := decide (60 < c.kn.length ∨ 60 < c.rs.length) || (decide (n < (c.rs.length : Int)) && c.valid)
theorem great_len {c : Ch} {n : Int} (h : greatB c n = false) : c.kn.length ≤ 60 ∧ c.rs.length ≤ 60 := by
  simp only [greatB, Bool.or_eq_false_iff, decide_eq_false_iff_not] at h
  omega
theorem ent13 : Enters Try.prog 13 := Enters.mk Try.func13 (by kernel_rfl) rfl
theorem l_great_t (c : Ch) (n : Int) (h : 60 < c.kn.length ∨ 60 < c.rs.length) : PSpec Try.prog 13 [.agg [.int .i64 c.pl, .int .i64 c.ps, .list (c.kn.map pk), .list (c.rs.map pr), .int .i64 c.ms], .int .i64 n] (.ok (.bool true)) := by
  refine pspec_of Try.func13 (rfl : Try.f13.body = some _) rfl ?_
  intro E A C hN hL
  replace hN : C.N = 24 := hN
  simp only [Gh.num, List.map_cons, List.map_nil, Nat.reduceAdd]
  repeat refine gwp_seq ?_
  refine gwp_region ?_
  refine n1 120 false (hc := kWm1.h {}) (k := ?_)
  refine v0 (k := ?_)
  refine nil0 ?_
  refine cl [1, 2] (k := ?_)
  repeat refine gwp_seq ?_
  refine gwp_region ?_
  refine v0 (k := ?_)
  refine v0 (k := ?_)
  refine v0 (k := ?_)
  refine v0 (k := ?_)
  refine v0 (k := ?_)
  refine v0 (k := ?_)
  refine v0 (k := ?_)
  refine v0 (k := ?_)
  refine rb 12 true (h := by (exact decide_eq_true (by omega))) (k := ?_)
  refine v0 (k := ?_)
  refine x0 (k := ?_)
  refine x0 (k := ?_)
  refine x0 (k := ?_)
  refine x0 (k := ?_)
  refine x0 (k := ?_)
  refine x0 (k := ?_)
  refine x1 (k := ?_)
  refine x1 (k := ?_)
  refine x0 (k := ?_)
  refine v0 (k := ?_)
  refine v0 (k := ?_)
  refine nil0 ?_
  repeat refine gwp_seq ?_
  refine gwp_ret ?_
  repeat (first | refine gthen_ret ?_ | refine gblock_ret ?_ | refine gnoGoto_ret ?_)
  refine fin_ret ?_
  refine fp (hR := ?_)
  rfl
theorem l_great_f (c : Ch) (n : Int) (h1 : c.kn.length ≤ 60) (h2 : c.rs.length ≤ 60) : PSpec Try.prog 13 [.agg [.int .i64 c.pl, .int .i64 c.ps, .list (c.kn.map pk), .list (c.rs.map pr), .int .i64 c.ms], .int .i64 n] (.ok (.bool (decide (n < (c.rs.length : Int)) && c.valid))) := by
  refine pspec_of Try.func13 (rfl : Try.f13.body = some _) rfl ?_
  intro E A C hN hL
  replace hN : C.N = 24 := hN
  simp only [Gh.num, List.map_cons, List.map_nil, Nat.reduceAdd]
  repeat refine gwp_seq ?_
  refine gwp_region ?_
  refine n1 120 false (hc := kWm1.h {}) (k := ?_)
  refine v0 (k := ?_)
  refine nil0 ?_
  refine cl [1, 2] (k := ?_)
  repeat refine gwp_seq ?_
  refine gwp_region ?_
  refine v0 (k := ?_)
  refine v0 (k := ?_)
  refine v0 (k := ?_)
  refine v0 (k := ?_)
  refine v0 (k := ?_)
  refine v0 (k := ?_)
  refine v0 (k := ?_)
  refine v0 (k := ?_)
  refine rb 12 false (h := by (exact decide_eq_false (by omega))) (k := ?_)
  refine v0 (k := ?_)
  refine w0 (k := ?_)
  refine w0 (k := ?_)
  refine w0 (k := ?_)
  refine w0 (k := ?_)
  refine w0 (k := ?_)
  refine w0 (k := ?_)
  refine b0 (k1 := fun hb1 => ?_) (k0 := fun hb1 => ?_)
  · replace hb1 := hB.h {} hb1
    refine w0 (k := ?_)
    refine pcw (spec := r_chain c (by omega) (by omega)) (hent := ent35) (k := ?_)
    refine w0 (k := ?_)
    refine v0 (k := ?_)
    refine v0 (k := ?_)
    refine nil0 ?_
    repeat refine gwp_seq ?_
    refine gwp_ret ?_
    repeat (first | refine gthen_ret ?_ | refine gblock_ret ?_ | refine gnoGoto_ret ?_)
    refine fin_ret ?_
    refine fp (hR := ?_)
    first
    | rfl
    | (rw [decide_eq_false (show ¬ n < (c.rs.length : Int) by omega)]; rfl)
    | (rw [decide_eq_true (show n < (c.rs.length : Int) by omega)]; rfl)
  · replace hb1 := hB.h {} hb1
    refine x0 (k := ?_)
    refine x0 (k := ?_)
    refine w0 (k := ?_)
    refine v0 (k := ?_)
    refine v0 (k := ?_)
    refine nil0 ?_
    repeat refine gwp_seq ?_
    refine gwp_ret ?_
    repeat (first | refine gthen_ret ?_ | refine gblock_ret ?_ | refine gnoGoto_ret ?_)
    refine fin_ret ?_
    refine fp (hR := ?_)
    first
    | rfl
    | (rw [decide_eq_false (show ¬ n < (c.rs.length : Int) by omega)]; rfl)
    | (rw [decide_eq_true (show n < (c.rs.length : Int) by omega)]; rfl)
theorem l_great (c : Ch) (n : Int) : PSpec Try.prog 13 [.agg [.int .i64 c.pl, .int .i64 c.ps, .list (c.kn.map pk), .list (c.rs.map pr), .int .i64 c.ms], .int .i64 n] (.ok (.bool (greatB c n))) := by
  by_cases h : 60 < c.kn.length ∨ 60 < c.rs.length
  · rw [greatB, decide_eq_true h]; exact l_great_t c n h
  · rw [greatB, decide_eq_false h]; exact l_great_f c n (by omega) (by omega)
end Go.Proofs.Ytagdholenfkeaaa

/- What the program says of chains that are valid, for plates and persons that there are. -/
namespace Go.Proofs.Ytagdholenfkeaaa
open Go.Gh
set_option maxRecDepth 100000
set_option maxHeartbeats 4000000
theorem w_where_t (c : Ch) (hv : c.valid = true) (p : Nat) (hp : (p : Int) < c.pl) (hc : leastC c ≤ c.ms) : PSpec Try.prog 24 [.agg [.int .i64 c.pl, .int .i64 c.ps, .list (c.kn.map pk), .list (c.rs.map pr), .int .i64 c.ms], .int .i64 (p : Nat)] (.ok (.tuple [.int .i64 (whereC c (p : Nat) : Nat), .int .i64 0])) := fun E A => p_where_t c hv p (by simp only [inQ]; rw [decide_eq_true (by omega), decide_eq_true (by omega)]; rfl) hc
theorem w_where_c (c : Ch) (hv : c.valid = true) (p : Nat) (hp : (p : Int) < c.pl) (hc : ¬ leastC c ≤ c.ms) : PSpec Try.prog 24 [.agg [.int .i64 c.pl, .int .i64 c.ps, .list (c.kn.map pk), .list (c.rs.map pr), .int .i64 c.ms], .int .i64 (p : Nat)] (.ok (.tuple [.int .i64 0, .int .i64 10])) := fun E A => p_where_c c hv p (by simp only [inQ]; rw [decide_eq_true (by omega), decide_eq_true (by omega)]; rfl) hc
theorem w_hands_t (c : Ch) (hv : c.valid = true) (p : Nat) (hp : (p : Int) < c.pl) (hc : leastC c ≤ c.ms) : PSpec Try.prog 26 [.agg [.int .i64 c.pl, .int .i64 c.ps, .list (c.kn.map pk), .list (c.rs.map pr), .int .i64 c.ms], .int .i64 (p : Nat)] (.ok (.tuple [.int .i64 (setN (surQ c (p : Nat)) c.ps.toNat : Nat), .int .i64 (setN (canQ c (p : Nat)) c.ps.toNat : Nat), .int .i64 0])) := fun E A => p_hands_t c hv p (by simp only [inQ]; rw [decide_eq_true (by omega), decide_eq_true (by omega)]; rfl) hc
theorem w_hands_c (c : Ch) (hv : c.valid = true) (p : Nat) (hp : (p : Int) < c.pl) (hc : ¬ leastC c ≤ c.ms) : PSpec Try.prog 26 [.agg [.int .i64 c.pl, .int .i64 c.ps, .list (c.kn.map pk), .list (c.rs.map pr), .int .i64 c.ms], .int .i64 (p : Nat)] (.ok (.tuple [.int .i64 0, .int .i64 0, .int .i64 10])) := fun E A => p_hands_c c hv p (by simp only [inQ]; rw [decide_eq_true (by omega), decide_eq_true (by omega)]; rfl) hc
theorem w_holds_t (c : Ch) (hv : c.valid = true) (u : Nat) (hu : u < c.ps.toNat) (hc : leastC c ≤ c.ms) : PSpec Try.prog 28 [.agg [.int .i64 c.pl, .int .i64 c.ps, .list (c.kn.map pk), .list (c.rs.map pr), .int .i64 c.ms], .int .i64 (u : Nat)] (.ok (.tuple [.int .i64 (sureH c u c.pl.toNat : Nat), .int .i64 (canH c u c.pl.toNat : Nat), .int .i64 0])) := fun E A => p_holds_t c hv u (by simp only [inQ]; rw [decide_eq_true (by omega), decide_eq_true (by omega)]; rfl) (by have := valid_num hv; omega) hc
theorem w_holds_c (c : Ch) (hv : c.valid = true) (u : Nat) (hu : u < c.ps.toNat) (hc : ¬ leastC c ≤ c.ms) : PSpec Try.prog 28 [.agg [.int .i64 c.pl, .int .i64 c.ps, .list (c.kn.map pk), .list (c.rs.map pr), .int .i64 c.ms], .int .i64 (u : Nat)] (.ok (.tuple [.int .i64 0, .int .i64 0, .int .i64 10])) := fun E A => p_holds_c c hv u (by simp only [inQ]; rw [decide_eq_true (by omega), decide_eq_true (by omega)]; rfl) hc
theorem w_least_t (c : Ch) (hv : c.valid = true) (hc : leastC c < 1048576) : PSpec Try.prog 21 [.agg [.int .i64 c.pl, .int .i64 c.ps, .list (c.kn.map pk), .list (c.rs.map pr), .int .i64 c.ms]] (.ok (.tuple [.int .i64 (leastC c), .int .i64 0])) := fun E A => p_least_t c hv hc
theorem w_least_c (c : Ch) (hv : c.valid = true) (hc : ¬ leastC c < 1048576) : PSpec Try.prog 21 [.agg [.int .i64 c.pl, .int .i64 c.ps, .list (c.kn.map pk), .list (c.rs.map pr), .int .i64 c.ms]] (.ok (.tuple [.int .i64 0, .int .i64 10])) := fun E A => p_least_c c hv hc
theorem w_holder (c : Ch) (hv : c.valid = true) (p : Nat) (hp : (p : Int) < c.pl) (n : Nat) (hn2 : n ≤ c.rs.length) : PSpec Try.prog 15 [.agg [.int .i64 c.pl, .int .i64 c.ps, .list (c.kn.map pk), .list (c.rs.map pr), .int .i64 c.ms], .int .i64 (p : Nat), .int .i64 (n : Nat)] (.ok (.tuple [.int .i64 (holN (p : Nat) c.rs n), .int .i64 0])) := fun E A => p_holder_t c hv p n (by simp only [holdQ, inQ]; rw [decide_eq_true (by omega), decide_eq_true (by omega), decide_eq_true (by omega), decide_eq_true (by omega)]; rfl)
theorem w_break (c : Ch) (hv : c.valid = true) (p : Nat) (hp : (p : Int) < c.pl) : PSpec Try.prog 17 [.agg [.int .i64 c.pl, .int .i64 c.ps, .list (c.kn.map pk), .list (c.rs.map pr), .int .i64 c.ms], .int .i64 (p : Nat)] (.ok (.tuple [.int .i64 (brkV c (p : Nat)).1, .int .i64 (brkV c (p : Nat)).2])) := fun E A => p_break_t c hv p (by simp only [inQ]; rw [decide_eq_true (by omega), decide_eq_true (by omega)]; rfl)
theorem w_drop (c : Ch) (hv : c.valid = true) : PSpec Try.prog 30 [.agg [.int .i64 c.pl, .int .i64 c.ps, .list (c.kn.map pk), .list (c.rs.map pr), .int .i64 c.ms]] (.ok (.tuple [.int .i64 (dropV c : Nat), .int .i64 0])) := fun E A => p_drop_t c hv
theorem great_val {c : Ch} {n : Int} (h : greatB c n = false) (hv : c.valid = true) : (c.rs.length : Int) ≤ n := by
  simp only [greatB, hv, Bool.and_true, Bool.or_eq_false_iff, decide_eq_false_iff_not] at h
  omega
theorem tmod_nat {b : Nat} {m : Int} (h : 1 ≤ m ∧ m ≤ 8) : ∃ u : Nat, (b : Int).tmod m = (u : Int) ∧ u < m.toNat ∧ u = b % m.toNat := by
  refine ⟨b % m.toNat, ?_, Nat.mod_lt _ (by omega), rfl⟩
  conv => lhs; rw [show m = ((m.toNat : Nat) : Int) by omega]
  exact (Int.ofNat_tmod b m.toNat).symm
theorem shr_b (w l : Nat) (hl : l ≤ 60) : (w : Int).fdiv (2 ^ min l IntKind.i64.bits) = ((w / 2 ^ l : Nat) : Int) := shr_i w l hl
theorem shr_z {w l : Nat} (hl : l ≤ 60) (h : w < 2 ^ l) : (w : Int).fdiv (2 ^ min l IntKind.i64.bits) = 0 := by rw [shr_b w l hl, Nat.div_eq_of_lt h]; rfl
theorem shl_b (n : Nat) (h : n ≤ 40) : IntKind.i64.wrap (1 * 2 ^ min n IntKind.i64.bits) = ((2 ^ n : Nat) : Int) := shl1_i64 n h
theorem beq_b (b : Bool) : (b == b) = true := by cases b <;> rfl
/-- A bit. -/
def bitN (w l : Nat) : Int := ((w / 2 ^ l % 2 : Nat) : Int)
theorem and_b (w l : Nat) (hw : w < 2 ^ 62) : bitop .and .i64 ((w / 2 ^ l : Nat) : Int) 1 = bitN w l := and1_i _ (Nat.lt_of_le_of_lt (Nat.div_le_self _ _) hw)
theorem bitN_t {w l : Nat} (h : w.testBit l = true) : bitN w l = 1 := by rw [bitN, bit_one.2 h]; rfl
theorem bitN_f {w l : Nat} (h : w.testBit l = false) : bitN w l = 0 := by rw [bitN, bit_zero.2 h]; rfl
theorem bitN_same {w v l m : Nat} (h : w.testBit l = v.testBit m) : bitN w l = bitN v m := by
  cases e : v.testBit m with
  | true => rw [bitN_t (h.trans e), bitN_t e]
  | false => rw [bitN_f (h.trans e), bitN_f e]
end Go.Proofs.Ytagdholenfkeaaa

/- The statement ChainWhere. -/
namespace Go.Proofs.Ytagdholenfkeaaa
open Go.Gh
set_option maxRecDepth 100000
set_option maxHeartbeats 4000000
structure kLc1 (c : Prop) : Prop where
  h : c := by (first | exact True.intro | omega | (simp only [inI]; omega) | (simp [P.size, pr, pk, all_int, allOne_p, goods_p, allOne, goods, good, G.one, P.one, P.cells] <;> first | omega | assumption | simp_all))
theorem w_where_z (c : Ch) (hv : c.valid = true) (p u t : Nat) (hp : (p : Int) < c.pl) (hu : u < c.ps.toNat) (ht : (t : Int) < c.ps) (hne : ¬ u = t) (hl : c.rs.length ≤ 11) (hc : leastC c ≤ c.ms) :
    ∃ w : Nat, PSpec Try.prog 24 [.agg [.int .i64 c.pl, .int .i64 c.ps, .list (c.kn.map pk), .list (c.rs.map pr ++ [.agg [.int .i64 (p : Nat), .int .i64 (u : Nat), .int .i64 (t : Nat)]]), .int .i64 c.ms], .int .i64 (p : Nat)] (.ok (.tuple [.int .i64 (w : Nat), .int .i64 (if (whereC c (p : Nat)).testBit u = true then 0 else 10)])) := by
  have hn := valid_num hv
  have hr := rec_ok (c := c) (p := p) (u := u) (t := t) (by omega) (by omega) (by omega) (by omega)
  have hvz := snoc_valid hv hl hr
  have hlz := least_snoc c ⟨(p : Nat), (u : Nat), (t : Nat)⟩ (p := p) rfl hp
  rw [show (Rc.f ⟨(p : Nat), (u : Nat), (t : Nat)⟩).toNat = u from rfl] at hlz
  have hiff : (whereC c (p : Nat)).testBit u = true ↔ leastC (c.snoc ⟨(p : Nat), (u : Nat), (t : Nat)⟩) ≤ c.ms := by
    rw [whereC_bit, decide_eq_true (show u < c.ps.toNat from hu), Bool.true_and, decide_eq_true_iff, hlz]
    omega
  have hm : (c.snoc ⟨(p : Nat), (u : Nat), (t : Nat)⟩).rs.map pr = c.rs.map pr ++ [.agg [.int .i64 (p : Nat), .int .i64 (u : Nat), .int .i64 (t : Nat)]] := by simp [Ch.snoc, pr]
  have hpz : ((p : Nat) : Int) < (c.snoc ⟨(p : Nat), (u : Nat), (t : Nat)⟩).pl := hp
  by_cases hb : (whereC c (p : Nat)).testBit u = true
  · have := w_where_t _ hvz p hpz (hiff.1 hb)
    rw [hm] at this
    rw [if_pos hb]
    exact ⟨_, this⟩
  · have := w_where_c _ hvz p hpz (fun h => hb (hiff.2 h))
    rw [hm] at this
    rw [if_neg hb]
    exact ⟨0, this⟩
theorem same_b {c : Ch} (hv : c.valid = true) {u p : Nat} (hu : u < 8) (hp : p < c.pl.toNat) : decide ((((whereC c (p : Nat)) : Nat) : Int) = ((2 ^ u : Nat) : Int)) = decide (bitN (sureH c u c.pl.toNat) p = 1) := by
  have h := sureH_bit hv hu hp
  by_cases e : (whereC c (p : Nat)) = 2 ^ u
  · rw [decide_eq_true (show (((whereC c (p : Nat)) : Nat) : Int) = ((2 ^ u : Nat) : Int) by rw [e]), decide_eq_true (bitN_t (h.trans (decide_eq_true e)))]
  · rw [decide_eq_false (show ¬ (((whereC c (p : Nat)) : Nat) : Int) = ((2 ^ u : Nat) : Int) by omega), decide_eq_false (by rw [bitN_f (h.trans (decide_eq_false e))]; omega)]
theorem next_ne {u : Nat} {m : Int} (hm : 1 ≤ m ∧ m ≤ 8) (h1 : ¬ m = 1) (hu : u < m.toNat) : ∃ t : Nat, ((u : Int) + 1).tmod m = (t : Int) ∧ (t : Int) < m ∧ ¬ u = t := by
  obtain ⟨t, h2, h3, h4⟩ := tmod_nat (b := u + 1) hm
  refine ⟨t, h2, by omega, ?_⟩
  intro e
  by_cases h : u + 1 < m.toNat
  · rw [Nat.mod_eq_of_lt h] at h4; omega
  · rw [show u + 1 = m.toNat by omega, Nat.mod_self] at h4; omega
theorem ways3 (p q : Prop) : p ∨ (¬ p ∧ q) ∨ (¬ p ∧ ¬ q) := by
  by_cases h : p
  · exact .inl h
  · by_cases g : q
    · exact .inr (.inl ⟨h, g⟩)
    · exact .inr (.inr ⟨h, g⟩)
theorem ent8 : Enters Try.prog 8 := Enters.mk Try.func8 (by kernel_rfl) rfl
theorem l_where (c : Ch) (x : Int) (b : Nat) (hb8 : b ≤ 255) : PSpec Try.prog 8 [.agg [.int .i64 c.pl, .int .i64 c.ps, .list (c.kn.map pk), .list (c.rs.map pr), .int .i64 c.ms], .int .i64 x, .int .u8 (b : Nat)] (.ok (.bool true)) := by
  refine pspec_of Try.func8 (rfl : Try.f8.body = some _) rfl ?_
  intro E A C hN hL
  replace hN : C.N = 211 := hN
  simp only [Gh.num, List.map_cons, List.map_nil, Nat.reduceAdd]
  have hdt : ∀ (i : Decidable True), @decide True i = true := fun i => decide_eq_true trivial
  have hdf : ∀ (i : Decidable False), @decide False i = false := fun i => decide_eq_false id
  have hbt : (true == true) = true := rfl
  have hbf : (false == false) = true := rfl
  have htf : (true == false) = false := rfl
  have hft : (false == true) = false := rfl
  repeat refine gwp_seq ?_
  refine gwp_region ?_
  refine n1 130 false (hc := kLc1.h {}) (k := ?_)
  refine v0 (k := ?_)
  refine nil0 ?_
  refine cl [1, 2, 3] (k := ?_)
  repeat refine gwp_seq ?_
  refine gwp_region ?_
  refine v0 (k := ?_)
  refine pc0 (spec := l_great c 11) (hent := ent13) (k := ?_)
  refine v0 (k := ?_)
  refine b0 (k1 := fun hb1 => ?_) (k0 := fun hb1 => ?_)
  · replace hb1 := hB.h {} hb1
    try rw [eqI] at hb1
    refine x0 (k := ?_)
    refine x0 (k := ?_)
    refine x0 (k := ?_)
    refine v0 (k := ?_)
    refine v0 (k := ?_)
    refine x0 (k := ?_)
    refine x0 (k := ?_)
    refine v0 (k := ?_)
    refine v0 (k := ?_)
    refine x0 (k := ?_)
    refine x0 (k := ?_)
    refine x0 (k := ?_)
    refine x0 (k := ?_)
    refine v0 (k := ?_)
    refine nil0 ?_
    repeat refine gwp_seq ?_
    refine cT (k := ?_)
    repeat refine gwp_seq ?_
    refine gwp_region ?_
    refine pc0 (spec := l_alive) (hent := ent14) (k := ?_)
    refine v0 (k := ?_)
    refine nil0 ?_
    repeat refine gwp_seq ?_
    refine gwp_ret ?_
    repeat (first | refine gthen_ret ?_ | refine gblock_ret ?_ | refine gnoGoto_ret ?_)
    refine fin_ret ?_
    refine fp (hR := ?_)
    rfl
  · replace hb1 := hB.h {} hb1
    try rw [eqI] at hb1
    obtain ⟨hk6, hr6⟩ := great_len (by assumption)
    refine w0 (k := ?_)
    refine pcw (spec := r_chain c (by omega) (by omega)) (hent := ent35) (k := ?_)
    refine w0 (k := ?_)
    refine v0 (k := ?_)
    refine v0 (k := ?_)
    refine b0 (k1 := fun hb2 => ?_) (k0 := fun hb2 => ?_)
    · replace hb2 := hB.h {} hb2
      try rw [eqI] at hb2
      refine x0 (k := ?_)
      refine x0 (k := ?_)
      refine v0 (k := ?_)
      refine v0 (k := ?_)
      refine x0 (k := ?_)
      refine x0 (k := ?_)
      refine x0 (k := ?_)
      refine x0 (k := ?_)
      refine v0 (k := ?_)
      refine nil0 ?_
      repeat refine gwp_seq ?_
      refine cT (k := ?_)
      repeat refine gwp_seq ?_
      refine gwp_region ?_
      refine pc0 (spec := l_alive) (hent := ent14) (k := ?_)
      refine v0 (k := ?_)
      refine nil0 ?_
      repeat refine gwp_seq ?_
      refine gwp_ret ?_
      repeat (first | refine gthen_ret ?_ | refine gblock_ret ?_ | refine gnoGoto_ret ?_)
      refine fin_ret ?_
      refine fp (hR := ?_)
      rfl
    · replace hb2 := hB.h {} hb2
      try rw [eqI] at hb2
      refine w0 (k := ?_)
      refine w0 (k := ?_)
      refine v0 (k := ?_)
      refine v0 (k := ?_)
      refine b0 (k1 := fun hb3 => ?_) (k0 := fun hb3 => ?_)
      · replace hb3 := hB.h {} hb3
        try rw [eqI] at hb3
        refine x0 (k := ?_)
        refine x0 (k := ?_)
        refine x0 (k := ?_)
        refine x0 (k := ?_)
        refine v0 (k := ?_)
        refine nil0 ?_
        repeat refine gwp_seq ?_
        refine cT (k := ?_)
        repeat refine gwp_seq ?_
        refine gwp_region ?_
        refine pc0 (spec := l_alive) (hent := ent14) (k := ?_)
        refine v0 (k := ?_)
        refine nil0 ?_
        repeat refine gwp_seq ?_
        refine gwp_ret ?_
        repeat (first | refine gthen_ret ?_ | refine gblock_ret ?_ | refine gnoGoto_ret ?_)
        refine fin_ret ?_
        refine fp (hR := ?_)
        rfl
      · replace hb3 := hB.h {} hb3
        try rw [eqI] at hb3
        refine w0 (k := ?_)
        refine w0 (k := ?_)
        refine w0 (k := ?_)
        refine w0 (k := ?_)
        refine v0 (k := ?_)
        refine nil0 ?_
        repeat refine gwp_seq ?_
        refine cB (k1 := fun hb4 => ?_) (k0 := fun hb4 => ?_)
        · replace hb4 := hB.h {} hb4
          try rw [eqI] at hb4
          repeat refine gwp_seq ?_
          refine gwp_region ?_
          refine pc0 (spec := l_alive) (hent := ent14) (k := ?_)
          refine v0 (k := ?_)
          refine nil0 ?_
          repeat refine gwp_seq ?_
          refine gwp_ret ?_
          repeat (first | refine gthen_ret ?_ | refine gblock_ret ?_ | refine gnoGoto_ret ?_)
          refine fin_ret ?_
          refine fp (hR := ?_)
          rfl
        · replace hb4 := hB.h {} hb4
          try rw [eqI] at hb4
          repeat refine gwp_seq ?_
          refine gwp_skip ?_
          refine cl [1, 2, 3] (k := ?_)
          repeat refine gwp_seq ?_
          have hv : c.valid = true := by assumption
          have hr11 := great_val (by assumption) hv
          obtain ⟨p, rfl⟩ : ∃ p : Nat, x = p := ⟨x.toNat, by omega⟩
          have hn := valid_num hv
          have hpl : (p : Int) < c.pl := by omega
          obtain ⟨u, hu, hu8, hub⟩ := tmod_nat (b := b) hn.2.1
          clear hub
          have hll := hol_lt hv (p := (p : Nat)) c.rs.length
          have hle := leastC_in hv
          rcases ways3 (leastC c ≤ c.ms) (leastC c < 1048576) with hc | ⟨hc, hlt⟩ | ⟨hc, hlt⟩
          · have hwl := whereC_lt2 c (p : Nat)
            have hwl8 := whereC_lt hv (p : Nat)
            have hxl := sureH_lt2 c u c.pl.toNat
            have hyl := canH_lt2 c u c.pl.toNat
            have hx8 := sureH_lt c u c.pl.toNat (by omega)
            have hy8 := canH_lt c u c.pl.toNat (by omega)
            have hw1 := where_pos hv hc (p := (p : Nat))
            have hwlast := where_last hv hc (p := (p : Nat))
            have f115 := shr_z (w := (whereC c (p : Nat))) (l := c.ps.toNat) (by omega) hwl
            have f121 := shr_b (whereC c (p : Nat)) (holN (p : Nat) c.rs c.rs.length).toNat (by omega)
            have f122 := and_b (whereC c (p : Nat)) (holN (p : Nat) c.rs c.rs.length).toNat (by omega)
            rw [bitN_t hwlast] at f122
            have f128 := shr_b (canH c u c.pl.toNat) p (by omega)
            have f129 := and_b (canH c u c.pl.toNat) p (by omega)
            rw [bitN_same (canH_bit c u (show p < c.pl.toNat by omega))] at f129
            have f133 := shr_b (whereC c (p : Nat)) u (by omega)
            have f134 := and_b (whereC c (p : Nat)) u (by omega)
            have fbb := beq_b
            have f141 := shr_b (sureH c u c.pl.toNat) p (by omega)
            have f142 := and_b (sureH c u c.pl.toNat) p (by omega)
            have f146 := shl_b u (by omega)
            have f171 := shl_b (holN (p : Nat) c.rs c.rs.length).toNat (by omega)
            have f154 := shr_z (w := (sureH c u c.pl.toNat)) (l := c.pl.toNat) (by omega) hxl
            have f161 := shr_z (w := (canH c u c.pl.toNat)) (l := c.pl.toNat) (by omega) hyl
            have f110 : decide ((((whereC c (p : Nat)) : Nat) : Int) < 1) = false := decide_eq_false (by omega)
            have f147 : decide ((((whereC c (p : Nat)) : Nat) : Int) = ((2 ^ u : Nat) : Int)) = decide (bitN (sureH c u c.pl.toNat) p = 1) := same_b hv (by omega) (by omega)
            repeat refine gwp_seq ?_
            refine gwp_region ?_
            refine v0 (k := ?_)
            refine v0 (k := ?_)
            refine pc0 (spec := w_where_t c hv p hpl hc) (hent := ent24) (k := ?_)
            refine v0 (k := ?_)
            refine v0 (k := ?_)
            refine v0 (k := ?_)
            refine v0 (k := ?_)
            refine v0 (k := ?_)
            refine nil0 ?_
            refine cl [1, 2, 3, 7, 8] (k := ?_)
            repeat refine gwp_seq ?_
            refine gwp_region ?_
            refine v0 (k := ?_)
            refine pc0 (spec := w_least_t c hv (by omega)) (hent := ent21) (k := ?_)
            refine v0 (k := ?_)
            refine v0 (k := ?_)
            refine v0 (k := ?_)
            refine v0 (k := ?_)
            refine v0 (k := ?_)
            refine nil0 ?_
            refine cl [1, 2, 3, 7, 8, 9, 10] (k := ?_)
            repeat refine gwp_seq ?_
            refine gwp_region ?_
            refine v0 (k := ?_)
            refine v0 (k := ?_)
            refine v0 (k := ?_)
            refine v0 (k := ?_)
            refine v0 (k := ?_)
            refine pc0 (spec := w_holder c hv p hpl c.rs.length (Nat.le_refl _)) (hent := ent15) (k := ?_)
            refine v0 (k := ?_)
            refine v0 (k := ?_)
            refine v0 (k := ?_)
            refine v0 (k := ?_)
            refine v0 (k := ?_)
            refine nil0 ?_
            refine cl [1, 2, 3, 7, 8, 9, 10, 11, 12] (k := ?_)
            repeat refine gwp_seq ?_
            refine gwp_region ?_
            refine v0 (k := ?_)
            refine v1 (hc := kLc1.h {}) (k := ?_)
            refine v0 (k := ?_)
            refine v0 (k := ?_)
            refine v1 (hc := kLc1.h {}) (k := ?_)
            refine v0 (k := ?_)
            refine nil0 ?_
            refine cl [1, 3, 7, 8, 9, 10, 11, 12, 13] (k := ?_)
            repeat refine gwp_seq ?_
            refine gwp_region ?_
            refine v0 (k := ?_)
            refine v0 (k := ?_)
            refine pc0 (spec := w_holds_t c hv u hu8 hc) (hent := ent28) (k := ?_)
            refine v0 (k := ?_)
            refine v0 (k := ?_)
            refine v0 (k := ?_)
            refine v0 (k := ?_)
            refine v0 (k := ?_)
            refine v0 (k := ?_)
            refine v0 (k := ?_)
            refine nil0 ?_
            refine cl [1, 3, 7, 8, 9, 10, 11, 12, 13, 14, 15, 16] (k := ?_)
            repeat refine gwp_seq ?_
            refine gwp_region ?_
            refine v0 (k := ?_)
            refine v0 (k := ?_)
            refine rb 71 false (h := by (first | rfl | decide | exact decide_eq_false (by omega))) (k := ?_)
            refine v0 (k := ?_)
            refine w0 (k := ?_)
            refine w0 (k := ?_)
            refine rb 74 true (h := by (first | rfl | decide | exact decide_eq_true (by omega))) (k := ?_)
            refine w0 (k := ?_)
            refine w0 (k := ?_)
            refine rb 76 true (h := by (first | rfl | decide | exact decide_eq_true (by omega))) (k := ?_)
            refine w0 (k := ?_)
            refine w0 (k := ?_)
            refine w0 (k := ?_)
            refine w0 (k := ?_)
            refine w0 (k := ?_)
            refine rb 81 true (h := by (first | rfl | decide | exact decide_eq_true (by omega))) (k := ?_)
            refine w0 (k := ?_)
            refine w0 (k := ?_)
            refine rb 83 false (h := by (first | rfl | decide | exact decide_eq_false (by omega))) (k := ?_)
            refine v0 (k := ?_)
            refine v0 (k := ?_)
            refine w0 (k := ?_)
            refine w0 (k := ?_)
            refine w0 (k := ?_)
            refine rb 88 false (h := by (first | rfl | decide | exact decide_eq_false (by omega))) (k := ?_)
            refine v0 (k := ?_)
            refine nil0 ?_
            repeat refine gwp_seq ?_
            refine cF (k := ?_)
            repeat refine gwp_seq ?_
            refine gwp_skip ?_
            refine cl [1, 3, 7, 8, 9, 11, 13, 14, 15] (k := ?_)
            repeat refine gwp_seq ?_
            refine gwp_region ?_
            refine v0 (k := ?_)
            refine v0 (k := ?_)
            refine rb 91 false (h := by (first | rfl | decide | exact decide_eq_false (by omega))) (k := ?_)
            refine nil0 ?_
            repeat refine gwp_seq ?_
            refine cF (k := ?_)
            repeat refine gwp_seq ?_
            refine gwp_skip ?_
            refine cl [1, 3, 7, 9, 11, 13, 14, 15] (k := ?_)
            repeat refine gwp_seq ?_
            refine rd ?_
            refine d0 0 (k := ?_)
            refine d0 1 (k := ?_)
            refine d0 2 (k := ?_)
            refine dw0 3 (k := ?_)
            refine dw0 4 (k := ?_)
            refine dw0 5 (k := ?_)
            refine dw1 6 (hc := kLc1.h {}) (k := ?_)
            refine dw0 7 (k := ?_)
            refine d0 8 (k := ?_)
            refine d0 9 (k := ?_)
            refine dw0 10 (k := ?_)
            refine dw0 11 (k := ?_)
            refine dw1 12 (hc := kLc1.h {}) (k := ?_)
            refine dw0 13 (k := ?_)
            refine dw0 14 (k := ?_)
            refine d0 15 (k := ?_)
            refine d0 16 (k := ?_)
            refine dw0 17 (k := ?_)
            refine dw0 18 (k := ?_)
            refine dw1 19 (hc := kLc1.h {}) (k := ?_)
            refine dw0 20 (k := ?_)
            refine dw0 21 (k := ?_)
            refine dw0 22 (k := ?_)
            refine dw0 23 (k := ?_)
            refine dw1 24 (hc := kLc1.h {}) (k := ?_)
            refine dw0 25 (k := ?_)
            refine dw0 26 (k := ?_)
            refine dw0 27 (k := ?_)
            refine d0 28 (k := ?_)
            refine d0 29 (k := ?_)
            refine dw0 30 (k := ?_)
            refine dw0 31 (k := ?_)
            refine dw1 32 (hc := kLc1.h {}) (k := ?_)
            refine dw0 33 (k := ?_)
            refine dw0 34 (k := ?_)
            refine dw0 35 (k := ?_)
            refine dw0 36 (k := ?_)
            refine dw1 37 (hc := kLc1.h {}) (k := ?_)
            refine dw0 38 (k := ?_)
            refine dw0 39 (k := ?_)
            refine d0 40 (k := ?_)
            refine d0 41 (k := ?_)
            refine dw0 42 (k := ?_)
            refine dw0 43 (k := ?_)
            refine dw0 44 (k := ?_)
            refine dw1 45 (hc := kLc1.h {}) (k := ?_)
            refine dw0 46 (k := ?_)
            refine d0 47 (k := ?_)
            refine d0 48 (k := ?_)
            refine dw0 49 (k := ?_)
            refine dw0 50 (k := ?_)
            refine dw0 51 (k := ?_)
            refine dw1 52 (hc := kLc1.h {}) (k := ?_)
            refine dw0 53 (k := ?_)
            refine d0 54 (k := ?_)
            refine dz 55 [0, 1, 3, 7, 7, 23, 63, 127, 255, 511, 1023, 1023, 4095, 8191, 16383, 32767, 65535, 131071, 131071, 524287, 1048575, 2097151, 131071, 131071, 12713983, 29491199, 63045631, 134217727, 268435455, 536870911, 1073741823, 1073741823, 4294967295, 8589934591, 17179869183, 1073741823, 1073741823, 69793218559, 241591910399, 549755813887, 1099511627775, 2199023255551, 4398046511103, 4398046511103, 13194139533311, 35184372088831, 70368744177663, 140737488355327, 281474976710655, 562949953421311, 562949953421311, 1688849860263935, 4503599627370495, 9007199254740991, 18014398509481983] (h := ?_)
            refine de 55 (h := ?_)
            repeat refine gwp_seq ?_
            refine cF (k := ?_)
            repeat refine gwp_seq ?_
            refine gwp_skip ?_
            refine cl [1, 3, 7, 9, 11, 13] (k := ?_)
            repeat refine gwp_seq ?_
            refine gwp_region ?_
            refine v0 (k := ?_)
            refine v0 (k := ?_)
            refine v0 (k := ?_)
            refine v0 (k := ?_)
            refine v0 (k := ?_)
            refine b0 (k1 := fun hb5 => ?_) (k0 := fun hb5 => ?_)
            · replace hb5 := hB.h {} hb5
              try rw [eqI] at hb5
              refine w0 (k := ?_)
              refine w0 (k := ?_)
              refine w1 (hc := kLc1.h {}) (k := ?_)
              refine w0 (k := ?_)
              refine rb 172 false (h := by (first | rfl | (rw [where_min hv hc (by omega), decide_eq_true rfl]; rfl) | (rw [where_min hv hc (by omega)]; simp))) (k := ?_)
              refine v0 (k := ?_)
              refine nil0 ?_
              repeat refine gwp_seq ?_
              refine cF (k := ?_)
              repeat refine gwp_seq ?_
              refine gwp_skip ?_
              refine cl [1, 3, 7, 13] (k := ?_)
              repeat refine gwp_seq ?_
              refine gwp_region ?_
              refine v0 (k := ?_)
              refine v0 (k := ?_)
              refine v0 (k := ?_)
              refine nil0 ?_
              repeat refine gwp_seq ?_
              refine cB (k1 := fun hb6 => ?_) (k0 := fun hb6 => ?_)
              · replace hb6 := hB.h {} hb6
                try rw [eqI] at hb6
                repeat refine gwp_seq ?_
                refine gwp_region ?_
                refine pc0 (spec := l_alive) (hent := ent14) (k := ?_)
                refine v0 (k := ?_)
                refine nil0 ?_
                repeat refine gwp_seq ?_
                refine gwp_ret ?_
                repeat (first | refine gthen_ret ?_ | refine gblock_ret ?_ | refine gnoGoto_ret ?_)
                refine fin_ret ?_
                refine fp (hR := ?_)
                rfl
              · replace hb6 := hB.h {} hb6
                try rw [eqI] at hb6
                repeat refine gwp_seq ?_
                refine gwp_skip ?_
                refine cl [1, 3, 7, 13] (k := ?_)
                repeat refine gwp_seq ?_
                refine gwp_region ?_
                refine v0 (k := ?_)
                refine n1 270 false (hc := kLc1.h {}) (k := ?_)
                refine s1 (hc := kLc1.h {}) (k := ?_)
                refine nil0 ?_
                refine cl [1, 3, 7, 13, 17] (k := ?_)
                repeat refine gwp_seq ?_
                obtain ⟨t, ht, ht1, ht2⟩ := next_ne hn.2.1 (by omega) hu8
                refine rd ?_
                refine dn1 0 1890 false (hc := kLc1.h {}) (k := ?_)
                refine d0 1 (k := ?_)
                refine d0 2 (k := ?_)
                refine dn1 3 1920 false (hc := kLc1.h {}) (k := ?_)
                refine d0 4 (k := ?_)
                refine d0 5 (k := ?_)
                refine d0 6 (k := ?_)
                refine d1 7 (hc := kLc1.h {}) (k := ?_)
                refine d0 8 (k := ?_)
                refine d0 9 (k := ?_)
                refine d1 10 (hc := kLc1.h {}) (k := ?_)
                refine d0 11 (k := ?_)
                refine dn1 12 2010 false (hc := kLc1.h {}) (k := ?_)
                refine dn1 13 2020 false (hc := kLc1.h {}) (k := ?_)
                refine d0 14 (k := ?_)
                refine ds1 15 (hc := kLc1.h {}) (k := ?_)
                refine dz 16 [0, 0, 2, 7, 0, 0, 0, 64, 0, 256, 960, 2032, 4080, 8191, 16383, 32767] (h := ?_)
                refine de 16 (h := ?_)
                refine cl [1, 7, 13, 17] (k := ?_)
                repeat refine gwp_seq ?_
                obtain ⟨w2, hz⟩ := w_where_z c hv p u t hpl hu8 ht1 ht2 (by omega) hc
                by_cases hb5 : (whereC c (p : Nat)).testBit u = true
                · rw [if_pos hb5] at hz
                  have f5 := bitN_t hb5
                  rw [f5] at f134
                  repeat refine gwp_seq ?_
                  refine gwp_region ?_
                  refine v0 (k := ?_)
                  refine v0 (k := ?_)
                  refine pc0 (spec := hz) (hent := ent24) (k := ?_)
                  refine v0 (k := ?_)
                  refine v0 (k := ?_)
                  refine v0 (k := ?_)
                  refine v0 (k := ?_)
                  refine v0 (k := ?_)
                  refine nil0 ?_
                  refine cl [7, 13, 19] (k := ?_)
                  repeat refine gwp_seq ?_
                  refine gwp_region ?_
                  refine v0 (k := ?_)
                  refine v0 (k := ?_)
                  refine rb 201 true (h := by (first | rfl | decide | exact decide_eq_true (by omega))) (k := ?_)
                  refine v0 (k := ?_)
                  refine v0 (k := ?_)
                  refine v1 (hc := kLc1.h {}) (k := ?_)
                  refine v0 (k := ?_)
                  refine v0 (k := ?_)
                  refine rb 206 true (h := by (first | rfl | decide | exact decide_eq_true (by omega))) (k := ?_)
                  refine v0 (k := ?_)
                  refine rb 207 true (h := by (first | rfl | decide | exact decide_eq_true (by omega))) (k := ?_)
                  refine v0 (k := ?_)
                  refine pcw (spec := l_alive) (hent := ent14) (k := ?_)
                  refine v0 (k := ?_)
                  refine v0 (k := ?_)
                  refine nil0 ?_
                  repeat refine gwp_seq ?_
                  refine gwp_ret ?_
                  repeat (first | refine gthen_ret ?_ | refine gblock_ret ?_ | refine gnoGoto_ret ?_)
                  refine fin_ret ?_
                  refine fp (hR := ?_)
                  rfl
                · rw [if_neg hb5] at hz
                  have f5 := bitN_f (Bool.not_eq_true _ ▸ hb5)
                  rw [f5] at f134
                  repeat refine gwp_seq ?_
                  refine gwp_region ?_
                  refine v0 (k := ?_)
                  refine v0 (k := ?_)
                  refine pc0 (spec := hz) (hent := ent24) (k := ?_)
                  refine v0 (k := ?_)
                  refine v0 (k := ?_)
                  refine v0 (k := ?_)
                  refine v0 (k := ?_)
                  refine v0 (k := ?_)
                  refine nil0 ?_
                  refine cl [7, 13, 19] (k := ?_)
                  repeat refine gwp_seq ?_
                  refine gwp_region ?_
                  refine v0 (k := ?_)
                  refine v0 (k := ?_)
                  refine rb 201 false (h := by (first | rfl | decide | exact decide_eq_false (by omega))) (k := ?_)
                  refine v0 (k := ?_)
                  refine v0 (k := ?_)
                  refine v1 (hc := kLc1.h {}) (k := ?_)
                  refine v0 (k := ?_)
                  refine v0 (k := ?_)
                  refine rb 206 false (h := by (first | rfl | decide | exact decide_eq_false (by omega))) (k := ?_)
                  refine v0 (k := ?_)
                  refine rb 207 true (h := by (first | rfl | decide | exact decide_eq_true (by omega))) (k := ?_)
                  refine v0 (k := ?_)
                  refine pcw (spec := l_alive) (hent := ent14) (k := ?_)
                  refine v0 (k := ?_)
                  refine v0 (k := ?_)
                  refine nil0 ?_
                  repeat refine gwp_seq ?_
                  refine gwp_ret ?_
                  repeat (first | refine gthen_ret ?_ | refine gblock_ret ?_ | refine gnoGoto_ret ?_)
                  refine fin_ret ?_
                  refine fp (hR := ?_)
                  rfl
            · replace hb5 := hB.h {} hb5
              try rw [eqI] at hb5
              refine x0 (k := ?_)
              refine x0 (k := ?_)
              refine x0 (k := ?_)
              refine x0 (k := ?_)
              refine v0 (k := ?_)
              refine nil0 ?_
              repeat refine gwp_seq ?_
              refine cF (k := ?_)
              repeat refine gwp_seq ?_
              refine gwp_skip ?_
              refine cl [1, 3, 7, 13] (k := ?_)
              repeat refine gwp_seq ?_
              refine gwp_region ?_
              refine v0 (k := ?_)
              refine v0 (k := ?_)
              refine v0 (k := ?_)
              refine nil0 ?_
              repeat refine gwp_seq ?_
              refine cB (k1 := fun hb7 => ?_) (k0 := fun hb7 => ?_)
              · replace hb7 := hB.h {} hb7
                try rw [eqI] at hb7
                repeat refine gwp_seq ?_
                refine gwp_region ?_
                refine pc0 (spec := l_alive) (hent := ent14) (k := ?_)
                refine v0 (k := ?_)
                refine nil0 ?_
                repeat refine gwp_seq ?_
                refine gwp_ret ?_
                repeat (first | refine gthen_ret ?_ | refine gblock_ret ?_ | refine gnoGoto_ret ?_)
                refine fin_ret ?_
                refine fp (hR := ?_)
                rfl
              · replace hb7 := hB.h {} hb7
                try rw [eqI] at hb7
                repeat refine gwp_seq ?_
                refine gwp_skip ?_
                refine cl [1, 3, 7, 13] (k := ?_)
                repeat refine gwp_seq ?_
                refine gwp_region ?_
                refine v0 (k := ?_)
                refine n1 270 false (hc := kLc1.h {}) (k := ?_)
                refine s1 (hc := kLc1.h {}) (k := ?_)
                refine nil0 ?_
                refine cl [1, 3, 7, 13, 17] (k := ?_)
                repeat refine gwp_seq ?_
                obtain ⟨t, ht, ht1, ht2⟩ := next_ne hn.2.1 (by omega) hu8
                refine rd ?_
                refine dn1 0 1890 false (hc := kLc1.h {}) (k := ?_)
                refine d0 1 (k := ?_)
                refine d0 2 (k := ?_)
                refine dn1 3 1920 false (hc := kLc1.h {}) (k := ?_)
                refine d0 4 (k := ?_)
                refine d0 5 (k := ?_)
                refine d0 6 (k := ?_)
                refine d1 7 (hc := kLc1.h {}) (k := ?_)
                refine d0 8 (k := ?_)
                refine d0 9 (k := ?_)
                refine d1 10 (hc := kLc1.h {}) (k := ?_)
                refine d0 11 (k := ?_)
                refine dn1 12 2010 false (hc := kLc1.h {}) (k := ?_)
                refine dn1 13 2020 false (hc := kLc1.h {}) (k := ?_)
                refine d0 14 (k := ?_)
                refine ds1 15 (hc := kLc1.h {}) (k := ?_)
                refine dz 16 [0, 0, 2, 7, 0, 0, 0, 64, 0, 256, 960, 2032, 4080, 8191, 16383, 32767] (h := ?_)
                refine de 16 (h := ?_)
                refine cl [1, 7, 13, 17] (k := ?_)
                repeat refine gwp_seq ?_
                obtain ⟨w2, hz⟩ := w_where_z c hv p u t hpl hu8 ht1 ht2 (by omega) hc
                by_cases hb5 : (whereC c (p : Nat)).testBit u = true
                · rw [if_pos hb5] at hz
                  have f5 := bitN_t hb5
                  rw [f5] at f134
                  repeat refine gwp_seq ?_
                  refine gwp_region ?_
                  refine v0 (k := ?_)
                  refine v0 (k := ?_)
                  refine pc0 (spec := hz) (hent := ent24) (k := ?_)
                  refine v0 (k := ?_)
                  refine v0 (k := ?_)
                  refine v0 (k := ?_)
                  refine v0 (k := ?_)
                  refine v0 (k := ?_)
                  refine nil0 ?_
                  refine cl [7, 13, 19] (k := ?_)
                  repeat refine gwp_seq ?_
                  refine gwp_region ?_
                  refine v0 (k := ?_)
                  refine v0 (k := ?_)
                  refine rb 201 true (h := by (first | rfl | decide | exact decide_eq_true (by omega))) (k := ?_)
                  refine v0 (k := ?_)
                  refine v0 (k := ?_)
                  refine v1 (hc := kLc1.h {}) (k := ?_)
                  refine v0 (k := ?_)
                  refine v0 (k := ?_)
                  refine rb 206 true (h := by (first | rfl | decide | exact decide_eq_true (by omega))) (k := ?_)
                  refine v0 (k := ?_)
                  refine rb 207 true (h := by (first | rfl | decide | exact decide_eq_true (by omega))) (k := ?_)
                  refine v0 (k := ?_)
                  refine pcw (spec := l_alive) (hent := ent14) (k := ?_)
                  refine v0 (k := ?_)
                  refine v0 (k := ?_)
                  refine nil0 ?_
                  repeat refine gwp_seq ?_
                  refine gwp_ret ?_
                  repeat (first | refine gthen_ret ?_ | refine gblock_ret ?_ | refine gnoGoto_ret ?_)
                  refine fin_ret ?_
                  refine fp (hR := ?_)
                  rfl
                · rw [if_neg hb5] at hz
                  have f5 := bitN_f (Bool.not_eq_true _ ▸ hb5)
                  rw [f5] at f134
                  repeat refine gwp_seq ?_
                  refine gwp_region ?_
                  refine v0 (k := ?_)
                  refine v0 (k := ?_)
                  refine pc0 (spec := hz) (hent := ent24) (k := ?_)
                  refine v0 (k := ?_)
                  refine v0 (k := ?_)
                  refine v0 (k := ?_)
                  refine v0 (k := ?_)
                  refine v0 (k := ?_)
                  refine nil0 ?_
                  refine cl [7, 13, 19] (k := ?_)
                  repeat refine gwp_seq ?_
                  refine gwp_region ?_
                  refine v0 (k := ?_)
                  refine v0 (k := ?_)
                  refine rb 201 false (h := by (first | rfl | decide | exact decide_eq_false (by omega))) (k := ?_)
                  refine v0 (k := ?_)
                  refine v0 (k := ?_)
                  refine v1 (hc := kLc1.h {}) (k := ?_)
                  refine v0 (k := ?_)
                  refine v0 (k := ?_)
                  refine rb 206 false (h := by (first | rfl | decide | exact decide_eq_false (by omega))) (k := ?_)
                  refine v0 (k := ?_)
                  refine rb 207 true (h := by (first | rfl | decide | exact decide_eq_true (by omega))) (k := ?_)
                  refine v0 (k := ?_)
                  refine pcw (spec := l_alive) (hent := ent14) (k := ?_)
                  refine v0 (k := ?_)
                  refine v0 (k := ?_)
                  refine nil0 ?_
                  repeat refine gwp_seq ?_
                  refine gwp_ret ?_
                  repeat (first | refine gthen_ret ?_ | refine gblock_ret ?_ | refine gnoGoto_ret ?_)
                  refine fin_ret ?_
                  refine fp (hR := ?_)
                  rfl
          · repeat refine gwp_seq ?_
            refine gwp_region ?_
            refine v0 (k := ?_)
            refine v0 (k := ?_)
            refine pc0 (spec := w_where_c c hv p hpl hc) (hent := ent24) (k := ?_)
            refine v0 (k := ?_)
            refine v0 (k := ?_)
            refine v0 (k := ?_)
            refine v0 (k := ?_)
            refine v0 (k := ?_)
            refine nil0 ?_
            refine cl [1, 2, 3, 7, 8] (k := ?_)
            repeat refine gwp_seq ?_
            refine gwp_region ?_
            refine v0 (k := ?_)
            refine pc0 (spec := w_least_t c hv hlt) (hent := ent21) (k := ?_)
            refine v0 (k := ?_)
            refine v0 (k := ?_)
            refine v0 (k := ?_)
            refine v0 (k := ?_)
            refine v0 (k := ?_)
            refine nil0 ?_
            refine cl [1, 2, 3, 7, 8, 9, 10] (k := ?_)
            repeat refine gwp_seq ?_
            refine gwp_region ?_
            refine v0 (k := ?_)
            refine v0 (k := ?_)
            refine v0 (k := ?_)
            refine v0 (k := ?_)
            refine v0 (k := ?_)
            refine pc0 (spec := w_holder c hv p hpl c.rs.length (Nat.le_refl _)) (hent := ent15) (k := ?_)
            refine v0 (k := ?_)
            refine v0 (k := ?_)
            refine v0 (k := ?_)
            refine v0 (k := ?_)
            refine v0 (k := ?_)
            refine nil0 ?_
            refine cl [1, 2, 3, 7, 8, 9, 10, 11, 12] (k := ?_)
            repeat refine gwp_seq ?_
            refine gwp_region ?_
            refine v0 (k := ?_)
            refine v1 (hc := kLc1.h {}) (k := ?_)
            refine v0 (k := ?_)
            refine v0 (k := ?_)
            refine v1 (hc := kLc1.h {}) (k := ?_)
            refine v0 (k := ?_)
            refine nil0 ?_
            refine cl [1, 3, 7, 8, 9, 10, 11, 12, 13] (k := ?_)
            repeat refine gwp_seq ?_
            refine gwp_region ?_
            refine v0 (k := ?_)
            refine v0 (k := ?_)
            refine pc0 (spec := w_holds_c c hv u hu8 hc) (hent := ent28) (k := ?_)
            refine v0 (k := ?_)
            refine v0 (k := ?_)
            refine v0 (k := ?_)
            refine v0 (k := ?_)
            refine v0 (k := ?_)
            refine v0 (k := ?_)
            refine v0 (k := ?_)
            refine nil0 ?_
            refine cl [1, 3, 7, 8, 9, 10, 11, 12, 13, 14, 15, 16] (k := ?_)
            repeat refine gwp_seq ?_
            refine gwp_region ?_
            refine v0 (k := ?_)
            refine v0 (k := ?_)
            refine rb 71 false (h := by (first | rfl | decide | exact decide_eq_false (by omega))) (k := ?_)
            refine v0 (k := ?_)
            refine w0 (k := ?_)
            refine w0 (k := ?_)
            refine rb 74 false (h := by (first | rfl | decide | exact decide_eq_false (by omega))) (k := ?_)
            refine w0 (k := ?_)
            refine w0 (k := ?_)
            refine rb 76 true (h := by (first | rfl | decide | exact decide_eq_true (by omega))) (k := ?_)
            refine w0 (k := ?_)
            refine w0 (k := ?_)
            refine w0 (k := ?_)
            refine w0 (k := ?_)
            refine w0 (k := ?_)
            refine rb 81 false (h := by (first | rfl | decide | exact decide_eq_false (by omega))) (k := ?_)
            refine w0 (k := ?_)
            refine rb 82 false (h := by (first | rfl | decide | exact decide_eq_false (by omega))) (k := ?_)
            refine w0 (k := ?_)
            refine rb 83 false (h := by (first | rfl | decide | exact decide_eq_false (by omega))) (k := ?_)
            refine v0 (k := ?_)
            refine v0 (k := ?_)
            refine w0 (k := ?_)
            refine w0 (k := ?_)
            refine w0 (k := ?_)
            refine rb 88 false (h := by (first | rfl | decide | exact decide_eq_false (by omega))) (k := ?_)
            refine v0 (k := ?_)
            refine nil0 ?_
            repeat refine gwp_seq ?_
            refine cF (k := ?_)
            repeat refine gwp_seq ?_
            refine gwp_skip ?_
            refine cl [1, 3, 7, 8, 9, 11, 13, 14, 15] (k := ?_)
            repeat refine gwp_seq ?_
            refine gwp_region ?_
            refine v0 (k := ?_)
            refine v0 (k := ?_)
            refine rb 91 true (h := by (first | rfl | decide | exact decide_eq_true (by omega))) (k := ?_)
            refine nil0 ?_
            repeat refine gwp_seq ?_
            refine cT (k := ?_)
            repeat refine gwp_seq ?_
            refine gwp_region ?_
            refine v0 (k := ?_)
            refine v0 (k := ?_)
            refine rb 93 true (h := by (first | rfl | decide | exact decide_eq_true (by omega))) (k := ?_)
            refine v0 (k := ?_)
            refine w0 (k := ?_)
            refine w0 (k := ?_)
            refine rb 96 true (h := by (first | rfl | decide | exact decide_eq_true (by omega))) (k := ?_)
            refine v0 (k := ?_)
            refine v0 (k := ?_)
            refine w0 (k := ?_)
            refine w0 (k := ?_)
            refine rb 100 true (h := by (first | rfl | decide | exact decide_eq_true (by omega))) (k := ?_)
            refine v0 (k := ?_)
            refine v0 (k := ?_)
            refine w0 (k := ?_)
            refine w0 (k := ?_)
            refine rb 104 true (h := by (first | rfl | decide | exact decide_eq_true (by omega))) (k := ?_)
            refine v0 (k := ?_)
            refine v0 (k := ?_)
            refine pcw (spec := l_alive) (hent := ent14) (k := ?_)
            refine v0 (k := ?_)
            refine v0 (k := ?_)
            refine nil0 ?_
            repeat refine gwp_seq ?_
            refine gwp_ret ?_
            repeat (first | refine gthen_ret ?_ | refine gblock_ret ?_ | refine gnoGoto_ret ?_)
            refine fin_ret ?_
            refine fp (hR := ?_)
            rfl
          · repeat refine gwp_seq ?_
            refine gwp_region ?_
            refine v0 (k := ?_)
            refine v0 (k := ?_)
            refine pc0 (spec := w_where_c c hv p hpl hc) (hent := ent24) (k := ?_)
            refine v0 (k := ?_)
            refine v0 (k := ?_)
            refine v0 (k := ?_)
            refine v0 (k := ?_)
            refine v0 (k := ?_)
            refine nil0 ?_
            refine cl [1, 2, 3, 7, 8] (k := ?_)
            repeat refine gwp_seq ?_
            refine gwp_region ?_
            refine v0 (k := ?_)
            refine pc0 (spec := w_least_c c hv hlt) (hent := ent21) (k := ?_)
            refine v0 (k := ?_)
            refine v0 (k := ?_)
            refine v0 (k := ?_)
            refine v0 (k := ?_)
            refine v0 (k := ?_)
            refine nil0 ?_
            refine cl [1, 2, 3, 7, 8, 9, 10] (k := ?_)
            repeat refine gwp_seq ?_
            refine gwp_region ?_
            refine v0 (k := ?_)
            refine v0 (k := ?_)
            refine v0 (k := ?_)
            refine v0 (k := ?_)
            refine v0 (k := ?_)
            refine pc0 (spec := w_holder c hv p hpl c.rs.length (Nat.le_refl _)) (hent := ent15) (k := ?_)
            refine v0 (k := ?_)
            refine v0 (k := ?_)
            refine v0 (k := ?_)
            refine v0 (k := ?_)
            refine v0 (k := ?_)
            refine nil0 ?_
            refine cl [1, 2, 3, 7, 8, 9, 10, 11, 12] (k := ?_)
            repeat refine gwp_seq ?_
            refine gwp_region ?_
            refine v0 (k := ?_)
            refine v1 (hc := kLc1.h {}) (k := ?_)
            refine v0 (k := ?_)
            refine v0 (k := ?_)
            refine v1 (hc := kLc1.h {}) (k := ?_)
            refine v0 (k := ?_)
            refine nil0 ?_
            refine cl [1, 3, 7, 8, 9, 10, 11, 12, 13] (k := ?_)
            repeat refine gwp_seq ?_
            refine gwp_region ?_
            refine v0 (k := ?_)
            refine v0 (k := ?_)
            refine pc0 (spec := w_holds_c c hv u hu8 hc) (hent := ent28) (k := ?_)
            refine v0 (k := ?_)
            refine v0 (k := ?_)
            refine v0 (k := ?_)
            refine v0 (k := ?_)
            refine v0 (k := ?_)
            refine v0 (k := ?_)
            refine v0 (k := ?_)
            refine nil0 ?_
            refine cl [1, 3, 7, 8, 9, 10, 11, 12, 13, 14, 15, 16] (k := ?_)
            repeat refine gwp_seq ?_
            refine gwp_region ?_
            refine v0 (k := ?_)
            refine v0 (k := ?_)
            refine rb 71 false (h := by (first | rfl | decide | exact decide_eq_false (by omega))) (k := ?_)
            refine v0 (k := ?_)
            refine w0 (k := ?_)
            refine w0 (k := ?_)
            refine rb 74 false (h := by (first | rfl | decide | exact decide_eq_false (by omega))) (k := ?_)
            refine w0 (k := ?_)
            refine w0 (k := ?_)
            refine rb 76 false (h := by (first | rfl | decide | exact decide_eq_false (by omega))) (k := ?_)
            refine w0 (k := ?_)
            refine x0 (k := ?_)
            refine x0 (k := ?_)
            refine x0 (k := ?_)
            refine x0 (k := ?_)
            refine w0 (k := ?_)
            refine rb 82 false (h := by (first | rfl | decide | exact decide_eq_false (by omega))) (k := ?_)
            refine w0 (k := ?_)
            refine rb 83 false (h := by (first | rfl | decide | exact decide_eq_false (by omega))) (k := ?_)
            refine v0 (k := ?_)
            refine v0 (k := ?_)
            refine w0 (k := ?_)
            refine w0 (k := ?_)
            refine w0 (k := ?_)
            refine rb 88 false (h := by (first | rfl | decide | exact decide_eq_false (by omega))) (k := ?_)
            refine v0 (k := ?_)
            refine nil0 ?_
            repeat refine gwp_seq ?_
            refine cF (k := ?_)
            repeat refine gwp_seq ?_
            refine gwp_skip ?_
            refine cl [1, 3, 7, 8, 9, 11, 13, 14, 15] (k := ?_)
            repeat refine gwp_seq ?_
            refine gwp_region ?_
            refine v0 (k := ?_)
            refine v0 (k := ?_)
            refine rb 91 true (h := by (first | rfl | decide | exact decide_eq_true (by omega))) (k := ?_)
            refine nil0 ?_
            repeat refine gwp_seq ?_
            refine cT (k := ?_)
            repeat refine gwp_seq ?_
            refine gwp_region ?_
            refine v0 (k := ?_)
            refine v0 (k := ?_)
            refine rb 93 true (h := by (first | rfl | decide | exact decide_eq_true (by omega))) (k := ?_)
            refine v0 (k := ?_)
            refine w0 (k := ?_)
            refine w0 (k := ?_)
            refine rb 96 true (h := by (first | rfl | decide | exact decide_eq_true (by omega))) (k := ?_)
            refine v0 (k := ?_)
            refine v0 (k := ?_)
            refine w0 (k := ?_)
            refine w0 (k := ?_)
            refine rb 100 true (h := by (first | rfl | decide | exact decide_eq_true (by omega))) (k := ?_)
            refine v0 (k := ?_)
            refine v0 (k := ?_)
            refine w0 (k := ?_)
            refine w0 (k := ?_)
            refine rb 104 true (h := by (first | rfl | decide | exact decide_eq_true (by omega))) (k := ?_)
            refine v0 (k := ?_)
            refine v0 (k := ?_)
            refine pcw (spec := l_alive) (hent := ent14) (k := ?_)
            refine v0 (k := ?_)
            refine v0 (k := ?_)
            refine nil0 ?_
            repeat refine gwp_seq ?_
            refine gwp_ret ?_
            repeat (first | refine gthen_ret ?_ | refine gblock_ret ?_ | refine gnoGoto_ret ?_)
            refine fin_ret ?_
            refine fp (hR := ?_)
            rfl
end Go.Proofs.Ytagdholenfkeaaa

/- The statement ChainWhere, for every input: the law returns true, and its arguments read as they did.  -/
namespace Go.Proofs.Ytagdholenfkeaaa
open Go.Gh Go.ChangeShapes Go.WideShapes Go.ChangeAt Go.RowKit
set_option maxRecDepth 100000
theorem aj_where : ∀ ps, FitAs [(true, chSS), (false, [.int .i64]), (false, [.int .u8])] ps → PSpec Try.prog 8 ps (.ok (.bool true)) := fun ps h => by
  simp only [FitAs] at h
  obtain ⟨_, _, rfl, q0, _, _, rfl, q1, _, _, rfl, q2, rfl⟩ := h
  obtain ⟨c, rfl, hc1, hc2, hc3, hc4, hc5, hc6, hc7⟩ := ch_of q0
  obtain ⟨x, rfl, hx⟩ := int_of q1
  obtain ⟨b, rfl, hb⟩ := u8_of q2
  exact l_where c x b hb
theorem where_lifted (os : Os) (started : os.Started) (H : Type) (enc : TypeId × Value → H) :
    ReturnsInHanded {} Try.checked os 8 .any (Rows.chainWhereSpec.pre6 enc Try.prog Try.f8 Rows.chainWhereRow.domain false) (Rows.chainWhereSpec.post enc Try.prog Try.f8 false true false false) := by
  refine returnsInHanded_of_change (C := Try.checked) own started (by kernel_rfl) Try.func8
    (ChangeSpec.witness6 (enc := enc) (C := Try.checked) false ⟨#[], #[.agg #[.int .i64 0, .int .i64 0, .slice none 0 0, .slice none 0 0, .int .i64 0], .int .i64 0, .int .u8 0], []⟩ 8 (by kernel_rfl) (by kernel_rfl) (by kernel_rfl) (by kernel_rfl)) ?_
  intro W base args ds gs before hval hW _ _
  exact law_post (n := 9) (ss := [(true, chSS), (false, [.int .i64]), (false, [.int .u8])]) (b := 4) laidOut (by kernel_rfl) (by kernel_rfl) (by kernel_rfl) (by kernel_rfl) rfl
    (fun ds hd => by
      have hd' : ds.length = 3 := hd
      match ds, hd' with
      | [a, b, c], _ => rfl) aj_where hval hW
theorem where_holds : Rows.ChainWhereSaid :=
  OpenClaim.holds_of_wide 8 Try.f8 rfl rfl rfl rfl rfl rfl rfl ⟨rfl, rfl, rfl, rfl, rfl⟩ rfl rfl rfl rfl rfl (by kernel_rfl) Try.func8 (by kernel_rfl)
    (of_decide_eq_true (by kernel_rfl)) (by unfold Func.isWrapper; first | (rw [if_pos (by decide +kernel)]; kernel_rfl) | (rw [if_neg (by decide +kernel)]; exact ⟨rfl, rfl⟩))
    (fun os started H enc _ => where_lifted os started H enc)
end Go.Proofs.Ytagdholenfkeaaa
