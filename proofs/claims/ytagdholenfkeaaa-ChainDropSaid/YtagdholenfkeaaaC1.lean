/- The statement ChainDrop: the call returns true for every input, and its arguments read as before; no condition. -/
import Derived.Test.YtagdholenfkeaaaB3
set_option linter.unusedVariables false
set_option linter.unusedSimpArgs false
/- Sets by bits: what the program's sets have. -/
namespace Go.Proofs.Ytagdholenfkeaaa
open Go.Gh
theorem shr_i (w l : Nat) (hl : l ≤ 60) : (w : Int).fdiv (2 ^ min l 64) = ((w / 2 ^ l : Nat) : Int) := by
  rw [Nat.min_eq_left (by omega)]
  have : ((2 : Int) ^ l) = ((2 ^ l : Nat) : Int) := by simp
  rw [this, Int.ofNat_fdiv]
theorem and1_i (v : Nat) (h : v < 2 ^ 62) : bitop .and .i64 (v : Int) 1 = ((v % 2 : Nat) : Int) := by
  have e1 : (BitVec.ofInt 64 (v : Int)).toNat = v := by rw [BitVec.toNat_ofInt]; omega
  show IntKind.i64.wrap ((BitVec.ofInt 64 (v : Int) &&& BitVec.ofInt 64 1).toNat : Int) = _
  rw [BitVec.toNat_and, e1, show (BitVec.ofInt 64 1).toNat = 1 from rfl, Nat.and_one_is_mod]
  exact IntWalk.i64_in ((v % 2 : Nat) : Int) (by omega)
theorem bit_one {w l : Nat} : w / 2 ^ l % 2 = 1 ↔ w.testBit l = true := by
  rw [Nat.testBit_eq_decide_div_mod_eq, decide_eq_true_iff]
theorem bit_zero {w l : Nat} : w / 2 ^ l % 2 = 0 ↔ w.testBit l = false := by
  rw [Nat.testBit_eq_decide_div_mod_eq, decide_eq_false_iff_not]; omega
theorem or_bit {s k i : Nat} : (s ||| 2 ^ k).testBit i = (s.testBit i || decide (k = i)) := by
  rw [Nat.testBit_or, Nat.testBit_two_pow]
theorem lt_bit {s k i : Nat} (h : s < 2 ^ k) (hi : k ≤ i) : s.testBit i = false := Nat.testBit_lt_two_pow (Nat.lt_of_lt_of_le h (Nat.pow_le_pow_right (by omega) hi))
theorem or_lt2 {s k : Nat} (h : s < 2 ^ k) : s ||| 2 ^ k < 2 ^ (k + 1) := Nat.or_lt_two_pow (Nat.lt_trans h (Nat.pow_lt_pow_right (by omega) (by omega))) (Nat.pow_lt_pow_right (by omega) (by omega))
theorem setN_lt2 (q : Nat → Bool) : ∀ k, setN q k < 2 ^ k
  | 0 => by simp [setN]
  | k + 1 => by
    have := setN_lt2 q k
    simp only [setN]; split
    · exact or_lt2 this
    · exact Nat.lt_trans this (Nat.pow_lt_pow_right (by omega) (by omega))
theorem setN_bit (q : Nat → Bool) : ∀ k i, (setN q k).testBit i = (decide (i < k) && q i)
  | 0, i => by simp [setN]
  | k + 1, i => by
    have h := setN_bit q k i
    have hl := lt_bit (setN_lt2 q k) (Nat.le_refl k)
    simp only [setN]
    by_cases hk : q k = true
    · rw [if_pos hk, or_bit, h]
      by_cases e : k = i
      · subst e; simp [hk]
      · rw [decide_eq_false e, Bool.or_false]
        congr 1
        exact decide_eq_decide.2 (by omega)
    · rw [if_neg hk, h]
      by_cases e : k = i
      · subst e; simp [show q k = false by simpa using hk]
      · congr 1
        exact decide_eq_decide.2 (by omega)
theorem whereN_N (f : Mx) (h : Nat) (more : Int) : ∀ k, whereN f h more k = setN (fun u => decide (f h u ≤ more)) k
  | 0 => rfl
  | k + 1 => by
    rw [whereN, setN, ← whereN_N f h more k]
    by_cases hc : f h k ≤ more
    · rw [if_pos hc, if_pos (decide_eq_true hc)]
    · rw [if_neg hc, if_neg (by simp [hc])]
theorem canH_N (c : Ch) (x : Nat) : ∀ k, canH c x k = setN (fun p => (whereC c (p : Nat)).testBit x) k
  | 0 => rfl
  | k + 1 => by rw [canH, setN, ← canH_N c x k]
theorem sureH_N (c : Ch) (x : Nat) : ∀ k, sureH c x k = setN (fun p => (whereC c (p : Nat)).testBit x && decide (pop (whereC c (p : Nat)) = 1)) k
  | 0 => rfl
  | k + 1 => by
    rw [sureH, setN, ← sureH_N c x k]
    by_cases hc : (whereC c (k : Nat)).testBit x = true ∧ pop (whereC c (k : Nat)) = 1
    · rw [if_pos hc, if_pos (by rw [hc.1, decide_eq_true hc.2]; rfl)]
    · rw [if_neg hc, if_neg (fun h => hc (by simpa using h))]
theorem whereC_lt2 (c : Ch) (p : Int) : whereC c p < 2 ^ c.ps.toNat := by rw [whereC, whereN_N]; exact setN_lt2 _ _
theorem whereC_bit (c : Ch) (p : Int) (u : Nat) : (whereC c p).testBit u = (decide (u < c.ps.toNat) && decide (D (eF c.kn (-1)) (holN p c.rs c.rs.length).toNat u ≤ c.ms - leastC c)) := by rw [whereC, whereN_N, setN_bit]
theorem canH_lt2 (c : Ch) (x k : Nat) : canH c x k < 2 ^ k := by rw [canH_N]; exact setN_lt2 _ _
theorem sureH_lt2 (c : Ch) (x k : Nat) : sureH c x k < 2 ^ k := by rw [sureH_N]; exact setN_lt2 _ _
theorem canH_bit (c : Ch) (x : Nat) {k p : Nat} (h : p < k) : (canH c x k).testBit p = (whereC c (p : Nat)).testBit x := by rw [canH_N, setN_bit, decide_eq_true h, Bool.true_and]
theorem one_bit2 : ∀ l, l < 256 → ∀ x, x < 8 → (l = 2 ^ x ↔ (l.testBit x = true ∧ pop l = 1)) := by decide +kernel
theorem sureH_bit {c : Ch} (hv : c.valid = true) {x : Nat} (hx : x < 8) {k p : Nat} (h : p < k) : (sureH c x k).testBit p = decide (whereC c (p : Nat) = 2 ^ x) := by
  rw [sureH_N, setN_bit, decide_eq_true h, Bool.true_and]
  have := one_bit2 (whereC c (p : Nat)) (whereC_lt hv _) x hx
  by_cases e : whereC c (p : Nat) = 2 ^ x
  · rw [decide_eq_true e, (this.1 e).1, decide_eq_true (this.1 e).2]; rfl
  · rw [decide_eq_false e]
    cases h1 : (whereC c (p : Nat)).testBit x with
    | false => rfl
    | true =>
      rw [decide_eq_false fun h2 => e (this.2 ⟨h1, h2⟩)]; rfl
end Go.Proofs.Ytagdholenfkeaaa

/- A record more: what it takes. -/
namespace Go.Proofs.Ytagdholenfkeaaa
open Go.Gh
def Ch.snoc (c : Ch) (r : Rc) : Ch := { c with rs := c.rs ++ [r] }
theorem sel_app {p : Int} {rs : List Rc} {r : Rc} {S S' : Nat} : ∀ k, k ≤ rs.length → (∀ i, i < k → S.testBit i = S'.testBit i) → selN p S (rs ++ [r]) k = selN p S' rs k
  | 0, _, _ => rfl
  | k + 1, hk, hb => by
    have ih := sel_app (p := p) (rs := rs) (r := r) (S := S) (S' := S') k (by omega) fun i hi => hb i (by omega)
    simp only [selN]
    rw [List.getElem?_append_left (by omega), ih, hb k (by omega)]
theorem sel_snoc (p : Int) (rs : List Rc) (r : Rc) : selN p (allS (rs ++ [r]).length) (rs ++ [r]) (rs ++ [r]).length = if r.p = p then selN p (allS rs.length) rs rs.length ++ [(rs.length, r)] else selN p (allS rs.length) rs rs.length := by
  have h := sel_app (p := p) (rs := rs) (r := r) (S := allS (rs.length + 1)) (S' := allS rs.length) rs.length (Nat.le_refl _) fun i hi => by rw [all_bit (by omega), all_bit hi]
  rw [List.length_append, List.length_singleton]
  simp only [selN]
  rw [List.getElem?_append_right (Nat.le_refl _), Nat.sub_self, List.getElem?_cons_zero]
  simp only []
  rw [h, all_bit (Nat.lt_succ_self _)]
  by_cases e : r.p = p
  · rw [if_pos ⟨e, rfl⟩, if_pos e]
  · rw [if_neg (fun h => e h.1), if_neg e]
theorem steps_snoc (f : Mx) (l : List (Nat × Rc)) (e : Nat × Rc) : totV f (stepsL (l ++ [e])) = totV f (stepsL l) + f (lastH 0 l).toNat e.2.f.toNat := by
  simp only [stepsL, totV_snoc, toL_snoc, leastV]; omega
theorem last_all {p : Int} {rs : List Rc} : lastH 0 (selN p (allS rs.length) rs rs.length) = holN p rs rs.length := by
  rw [← last_hol rs.length (fun i hi => all_bit hi)]; rfl
theorem tot_snoc (f : Mx) (rs : List Rc) (r : Rc) (q : Int) : totV f (stepsL (selN q (allS (rs ++ [r]).length) (rs ++ [r]) (rs ++ [r]).length)) = totV f (stepsL (selN q (allS rs.length) rs rs.length)) + if r.p = q then f (holN q rs rs.length).toNat r.f.toNat else 0 := by
  rw [sel_snoc]
  split
  · rw [steps_snoc, last_all]
  · omega
theorem all_snoc (f : Mx) (rs : List Rc) (r : Rc) {p : Nat} (hp : r.p = p) : ∀ k, allV f (rs ++ [r]) (allS (rs ++ [r]).length) k = allV f rs (allS rs.length) k + if p < k then f (holN p rs rs.length).toNat r.f.toNat else 0
  | 0 => by simp [allV]
  | k + 1 => by
    simp only [allV]
    rw [all_snoc f rs r hp k, tot_snoc, hp]
    by_cases e : p = k
    · subst e
      rw [if_neg (by omega), if_pos rfl, if_pos (by omega)]; omega
    · rw [if_neg (show ¬ ((p : Nat) : Int) = (k : Nat) by omega)]
      by_cases h : p < k
      · rw [if_pos h, if_pos (by omega)]; omega
      · rw [if_neg h, if_neg (by omega)]; omega
theorem least_snoc (c : Ch) (r : Rc) {p : Nat} (hp : r.p = p) (hpl : (p : Int) < c.pl) : leastC (c.snoc r) = leastC c + D (eF c.kn (-1)) (holN p c.rs c.rs.length).toNat r.f.toNat := by
  have := all_snoc (D (eF c.kn (-1))) c.rs r hp c.pl.toNat
  rw [if_pos (by omega)] at this
  exact this
theorem any_snoc {α : Type} (l : List α) (x : α) (q : α → Bool) : (l ++ [x]).any q = (l.any q || q x) := by simp
theorem snoc_valid {c : Ch} (hv : c.valid = true) {r : Rc} (hl : c.rs.length ≤ 11) (hr : badR c.pl c.ps r = false) : (c.snoc r).valid = true := by
  have key : ∀ l : List Rc, ({ c with rs := l } : Ch).valid = (c.head && decide ((c.kn.length : Int) ≤ 28) && decide ((l.length : Int) ≤ 12) && !c.kn.any (badK c.ps) && !l.any (badR c.pl c.ps)) := fun l => rfl
  have h0 := key c.rs
  rw [show ({ c with rs := c.rs } : Ch) = c from rfl, hv] at h0
  have h1 := h0.symm
  rw [decide_eq_true (show ((c.rs.length : Nat) : Int) ≤ 12 by omega)] at h1
  rw [Ch.snoc, key, any_snoc, hr, Bool.or_false, decide_eq_true (show (((c.rs ++ [r]).length : Nat) : Int) ≤ 12 by rw [List.length_append, List.length_singleton]; omega)]
  exact h1
theorem rec_ok {c : Ch} {p u t : Int} (hp : 0 ≤ p ∧ p < c.pl) (hu : 0 ≤ u ∧ u < c.ps) (ht : 0 ≤ t ∧ t < c.ps) (hne : u ≠ t) : badR c.pl c.ps ⟨p, u, t⟩ = false := by
  simp only [badR]
  rw [decide_eq_true hp.1, decide_eq_true (show p ≤ c.pl - 1 by omega), decide_eq_true hu.1, decide_eq_true (show u ≤ c.ps - 1 by omega), decide_eq_true ht.1, decide_eq_true (show t ≤ c.ps - 1 by omega), decide_eq_false hne]
  rfl
theorem D_zero {e : Nat → Nat → Bool} {i k : Nat} (h : D e i k ≤ 0) : i = k := by
  obtain ⟨n, hn, hw⟩ := D_sound (e := e) (i := i) (k := k) (by simp only [NEV]; omega)
  obtain rfl : n = 0 := by omega
  exact hw
theorem hol_lt {c : Ch} (hv : c.valid = true) {p : Int} : ∀ k, 0 ≤ holN p c.rs k ∧ holN p c.rs k < c.ps
  | 0 => by have := valid_num hv; simp only [holN]; omega
  | k + 1 => by
    simp only [holN]
    split
    · rename_i r hr
      split
      · have := valid_rs hv (List.mem_of_getElem? hr); omega
      · exact hol_lt hv k
    · exact hol_lt hv k
section
variable {c : Ch} (hv : c.valid = true) (hc : leastC c ≤ c.ms) {p : Int}
include hv hc
theorem where_last : (whereC c p).testBit (holN p c.rs c.rs.length).toNat = true := by
  have h := hol_lt hv (p := p) c.rs.length
  have := (D_ok (eF c.kn (-1))).zz (holN p c.rs c.rs.length).toNat
  rw [whereC_bit, decide_eq_true (by omega), decide_eq_true (by omega)]; rfl
theorem where_pos : 1 ≤ whereC c p := by
  have h := where_last hv hc (p := p)
  cases e : whereC c p with
  | zero => rw [e, Nat.zero_testBit] at h; cases h
  | succ n => omega
theorem where_min (he : leastC c = c.ms) : whereC c p = 2 ^ (holN p c.rs c.rs.length).toNat := by
  have h := hol_lt hv (p := p) c.rs.length
  apply Nat.eq_of_testBit_eq
  intro u
  rw [Nat.testBit_two_pow]
  by_cases hu : (holN p c.rs c.rs.length).toNat = u
  · rw [decide_eq_true hu, ← hu]; exact where_last hv hc
  · rw [decide_eq_false hu, whereC_bit]
    rw [decide_eq_false (p := D (eF c.kn (-1)) (holN p c.rs c.rs.length).toNat u ≤ c.ms - leastC c) (fun h => hu (D_zero (e := eF c.kn (-1)) (by omega))), Bool.and_false]
end
end Go.Proofs.Ytagdholenfkeaaa

/- Which chains are valid, as the document asks for it. -/
namespace Go.Proofs.Ytagdholenfkeaaa
open Go.Gh
def inW (x m : Int) : Bool := decide (0 ≤ x) && decide (x ≤ IntKind.i64.wrap (m - 1))
theorem inW_eq {m : Int} (h : 1 ≤ m ∧ m ≤ 8) (x : Int) : inW x m = inQ x m := by
  rw [inW, inQ, IntWalk.i64_in (m - 1) (by omega)]
def badKW (ps : Int) (k : Kw) : Bool := !inW k.a ps || !inW k.b ps || decide (k.a = k.b)
def badRW (pl ps : Int) (r : Rc) : Bool := !inW r.p pl || !inW r.f ps || !inW r.t ps || decide (r.f = r.t)
theorem badKW_eq {ps : Int} (h : 1 ≤ ps ∧ ps ≤ 8) (k : Kw) : badKW ps k = badK ps k := by simp only [badKW, badK, inW_eq h, inQ]
theorem badRW_eq {pl ps : Int} (h : 1 ≤ ps ∧ ps ≤ 8) (g : 1 ≤ pl ∧ pl ≤ 4) (r : Rc) : badRW pl ps r = badR pl ps r := by simp only [badRW, badR, inW_eq h, inW_eq (m := pl) (by omega), inQ]
theorem head_false {c : Ch} (h : ¬ ((1 ≤ c.pl ∧ c.pl ≤ 4) ∧ (1 ≤ c.ps ∧ c.ps ≤ 8))) : c.valid = false := by
  have : c.head = false := by
    cases e : c.head with
    | false => rfl
    | true => simp only [Ch.head, Bool.and_eq_true, decide_eq_true_eq] at e; exact absurd ⟨e.1.1, e.1.2⟩ h
  simp [Ch.valid, this]
theorem valid_badK {c : Ch} {k : Nat} {x : Kw} (hx : c.kn[k]? = some x) (hb : badKW c.ps x = true) : c.valid = false := by
  by_cases h : (1 ≤ c.pl ∧ c.pl ≤ 4) ∧ (1 ≤ c.ps ∧ c.ps ≤ 8)
  · rw [badKW_eq h.2] at hb
    have : c.kn.any (badK c.ps) = true := List.any_eq_true.2 ⟨x, List.mem_of_getElem? hx, hb⟩
    simp [Ch.valid, this]
  · exact head_false h
theorem valid_badR {c : Ch} {k : Nat} {x : Rc} (hx : c.rs[k]? = some x) (hb : badRW c.pl c.ps x = true) : c.valid = false := by
  by_cases h : (1 ≤ c.pl ∧ c.pl ≤ 4) ∧ (1 ≤ c.ps ∧ c.ps ≤ 8)
  · rw [badRW_eq h.2 h.1] at hb
    have : c.rs.any (badR c.pl c.ps) = true := List.any_eq_true.2 ⟨x, List.mem_of_getElem? hx, hb⟩
    simp [Ch.valid, this]
  · exact head_false h
theorem valid_end {c : Ch} (h1 : c.kn.any (badKW c.ps) = false) (h2 : c.rs.any (badRW c.pl c.ps) = false) : c.valid = (((((decide (1 ≤ c.pl) && decide (c.pl ≤ 4)) && (decide (1 ≤ c.ps) && decide (c.ps ≤ 8))) && decide ((c.kn.length : Int) ≤ 28)) && decide ((c.rs.length : Int) ≤ 12)) && (decide (0 ≤ c.ms) && decide (c.ms ≤ 20))) := by
  by_cases h : (1 ≤ c.pl ∧ c.pl ≤ 4) ∧ (1 ≤ c.ps ∧ c.ps ≤ 8)
  · rw [show badKW c.ps = badK c.ps from funext fun k => badKW_eq h.2 k] at h1
    rw [show badRW c.pl c.ps = badR c.pl c.ps from funext fun r => badRW_eq h.2 h.1 r] at h2
    simp only [Ch.valid, Ch.head, h1, h2, Bool.not_false, Bool.and_true]
    cases decide (0 ≤ c.ms) && decide (c.ms ≤ 20) <;> simp
  · rw [head_false h]
    symm
    have : ((decide (1 ≤ c.pl) && decide (c.pl ≤ 4)) && (decide (1 ≤ c.ps) && decide (c.ps ≤ 8))) = false := by
      cases e : ((decide (1 ≤ c.pl) && decide (c.pl ≤ 4)) && (decide (1 ≤ c.ps) && decide (c.ps ≤ 8))) with
      | false => rfl
      | true => simp only [Bool.and_eq_true, decide_eq_true_eq] at e; exact absurd ⟨e.1, e.2⟩ h
    simp [this]
theorem any_step {α : Type} {l : List α} {q : α → Bool} {k : Nat} {x : α} (h : l[k]? = some x) (hx : q x = false) (ha : (l.take k).any q = false) : (l.take (k + 1)).any q = false := by
  rw [List.take_add_one, h, List.any_append, ha]; simp [hx]
theorem any_at {α : Type} {l : List α} {q : α → Bool} {k : Nat} {x : α} (h : l[k]? = some x) (hx : q x = true) : l.any q = true := List.any_eq_true.2 ⟨x, List.mem_of_getElem? h, hx⟩
end Go.Proofs.Ytagdholenfkeaaa

/- Rules of written-out states: sums that are wrapped, in regions in order. -/
namespace Go.Proofs.Ytagdholenfkeaaa
open Go.Gh
set_option maxRecDepth 100000
variable {E : Env Try.prog} {C : Cx E} {r : Option Nat} {ops : Array Oper} {Q : GE → Sg E → Prop} {rest : List Oper} {l : List (Nat × G)} {m : List (Nat × Ob)} {A : E.α} {df : List GD} {t : Nat} {ty : TypeId} {pos : String} {af : Array Edge}
theorem q0 {bo : BinOp} {t1 t2 : TypeId} {x y : Operand} {u v z : Int} (hx : gev (mkFr l) x = .p (.int .i64 u) := by (simp only [gev, ofV, mkFr_cons, Nat.reduceEqDiff, reduceIte] <;> rfl)) (hy : gev (mkFr l) y = .p (.int .i64 v) := by (simp only [gev, ofV, mkFr_cons, Nat.reduceEqDiff, reduceIte] <;> rfl)) (hb : (bo = .add ∧ z = u + v) ∨ (bo = .sub ∧ z = u - v) := by first | exact .inl ⟨rfl, rfl⟩ | exact .inr ⟨rfl, rfl⟩)
    (hd : mkHp m 99999 = .none := by (simp only [mkHp_cons, mkHp_nil, Nat.reduceEqDiff, reduceIte])) (ht : t < C.N := by omega) (k : gops C r ops Q rest (sg ((t, .p (.int .i64 (IntKind.i64.wrap z))) :: l) m A df)) :
    gops C r ops Q (⟨some t, .binOp bo t1 x y t2, ty, pos, af, none⟩ :: rest) (sg l m A df) :=
  gops_eff (eff_wrap (σ := sg l m A df) rfl hb (gwant_plain rfl) hx hy hd (by have := C.limOk; omega) (fun t' e => by cases e; exact ht)) k
end Go.Proofs.Ytagdholenfkeaaa

/- The document: which chains are valid. -/
namespace Go.Proofs.Ytagdholenfkeaaa
open Go.Gh
set_option maxRecDepth 100000
set_option maxHeartbeats 4000000
structure kWf1 (c : Prop) : Prop where
  h : c := by (first | exact True.intro | (simp only [inI]; omega) | (simp [P.size, pr, pk, all_int, allOne_p, goods_p, allOne, goods, good, G.one, P.one, P.cells] <;> first | omega | assumption | simp_all))
theorem s_inW (n m : Int) : PSpec Try.prog 50 [.int .i64 n, .int .i64 0, .int .i64 (IntKind.i64.wrap (m - 1))] (.ok (.bool (inW n m))) := s_in n 0 _
theorem ent49 : Enters Try.prog 49 := Enters.mk Try.func49 (by kernel_rfl) rfl
theorem r_plateW (c : Ch) (n : Int) : PSpec Try.prog 49 [.agg [.int .i64 c.pl, .int .i64 c.ps, .list (c.kn.map pk), .list (c.rs.map pr), .int .i64 c.ms], .int .i64 n] (.ok (.bool (inW n c.pl))) := by
  refine pspec_of Try.func49 (rfl : Try.f49.body = some _) rfl ?_
  intro E A C hN hL
  replace hN : C.N = 10 := hN
  simp only [Gh.num, List.map_cons, List.map_nil, Nat.reduceAdd]
  repeat refine gwp_seq ?_
  refine gwp_region ?_
  refine n1 120 false (hc := kWf1.h {}) (k := ?_)
  refine v0 (k := ?_)
  refine nil0 ?_
  refine cl [1, 2] (k := ?_)
  repeat refine gwp_seq ?_
  refine gwp_region ?_
  refine v0 (k := ?_)
  refine v0 (k := ?_)
  refine v0 (k := ?_)
  refine q0 (k := ?_)
  refine pc0 (spec := s_in _ _ _) (hent := ent50) (k := ?_)
  refine v0 (k := ?_)
  refine nil0 ?_
  repeat refine gwp_seq ?_
  refine gwp_ret ?_
  repeat (first | refine gthen_ret ?_ | refine gblock_ret ?_ | refine gnoGoto_ret ?_)
  refine fin_ret ?_
  refine fp (hR := ?_)
  rfl
theorem ent89 : Enters Try.prog 89 := Enters.mk Try.func89 (by kernel_rfl) rfl
theorem r_personW (c : Ch) (n : Int) : PSpec Try.prog 89 [.agg [.int .i64 c.pl, .int .i64 c.ps, .list (c.kn.map pk), .list (c.rs.map pr), .int .i64 c.ms], .int .i64 n] (.ok (.bool (inW n c.ps))) := by
  refine pspec_of Try.func89 (rfl : Try.f89.body = some _) rfl ?_
  intro E A C hN hL
  replace hN : C.N = 10 := hN
  simp only [Gh.num, List.map_cons, List.map_nil, Nat.reduceAdd]
  repeat refine gwp_seq ?_
  refine gwp_region ?_
  refine n1 120 false (hc := kWf1.h {}) (k := ?_)
  refine v0 (k := ?_)
  refine nil0 ?_
  refine cl [1, 2] (k := ?_)
  repeat refine gwp_seq ?_
  refine gwp_region ?_
  refine v0 (k := ?_)
  refine v0 (k := ?_)
  refine v0 (k := ?_)
  refine q0 (k := ?_)
  refine pc0 (spec := s_in _ _ _) (hent := ent50) (k := ?_)
  refine v0 (k := ?_)
  refine nil0 ?_
  repeat refine gwp_seq ?_
  refine gwp_ret ?_
  repeat (first | refine gthen_ret ?_ | refine gblock_ret ?_ | refine gnoGoto_ret ?_)
  refine fin_ret ?_
  refine fp (hR := ?_)
  rfl
theorem ent35 : Enters Try.prog 35 := Enters.mk Try.func35 (by kernel_rfl) rfl
theorem r_chain (c : Ch) (h1 : c.kn.length ≤ 1048576) (h2 : c.rs.length ≤ 1048576) : PSpec Try.prog 35 [.agg [.int .i64 c.pl, .int .i64 c.ps, .list (c.kn.map pk), .list (c.rs.map pr), .int .i64 c.ms]] (.ok (.bool c.valid)) := by
  refine pspec_of Try.func35 (rfl : Try.f35.body = some _) rfl ?_
  intro E A C hN hL
  replace hN : C.N = 103 := hN
  simp only [Gh.num, List.map_cons, List.map_nil, Nat.reduceAdd]
  have hpk : ∀ k : Kw, pk k = P.agg [.int .i64 k.a, .int .i64 k.b] := fun _ => rfl
  have hpr : ∀ r : Rc, pr r = P.agg [.int .i64 r.p, .int .i64 r.f, .int .i64 r.t] := fun _ => rfl
  repeat refine gwp_seq ?_
  refine gwp_region ?_
  refine n1 110 false (hc := kWf1.h {}) (k := ?_)
  refine v0 (k := ?_)
  refine nil0 ?_
  refine cl [1] (k := ?_)
  repeat refine gwp_seq ?_
  refine gwp_region ?_
  refine v0 (k := ?_)
  refine nil0 ?_
  refine cl [1, 3] (k := ?_)
  repeat refine gwp_seq ?_
  refine gwp_block ?_
  repeat refine gwp_seq ?_
  refine gc_loop (fun mz σ => ∃ k : Nat, (k ≤ c.kn.length) ∧ ((c.kn.take k).any (badKW c.ps) = false) ∧ mz = c.kn.length - k ∧ σ = (sg [(1, .ref 110 0), (3, .p (.int .i64 (k : Nat)))] [(110, .cells [.p (.int .i64 c.pl), .p (.int .i64 c.ps), .p (.list (c.kn.map pk)), .p (.list (c.rs.map pr)), .p (.int .i64 c.ms)] 0)] A [] : Sg E)) ?_ (fun mz σ hI => ?_)
  · refine lbeg [1, 3] (hV := ?_)
    exact ⟨_, 0, by omega, rfl, rfl, rfl⟩
  obtain ⟨k, hk, ha, hnn, rfl⟩ := hI
  repeat refine gwp_seq ?_
  refine gwp_region ?_
  refine v0 (k := ?_)
  refine v0 (k := ?_)
  refine v0 (k := ?_)
  refine v0 (k := ?_)
  refine v0 (k := ?_)
  refine nil0 ?_
  repeat refine gwp_seq ?_
  refine cB (k1 := fun hb1 => ?_) (k0 := fun hb1 => ?_)
  · replace hb1 := hB.h {} hb1
    repeat refine gwp_seq ?_
    refine gwp_skip ?_
    refine cl [1, 3] (k := ?_)
    repeat refine gwp_seq ?_
    refine gwp_block ?_
    repeat refine gwp_seq ?_
    obtain ⟨z, hz⟩ := getE (l := c.kn) (k := k) (by omega)
    refine gwp_region ?_
    refine v0 (k := ?_)
    refine v0 (k := ?_)
    refine v0 (k := ?_)
    refine v1 (hc := kWf1.h {}) (k := ?_)
    refine v0 (k := ?_)
    refine n1 140 false (hc := kWf1.h {}) (k := ?_)
    refine s1 (hc := kWf1.h {}) (k := ?_)
    refine nil0 ?_
    refine cl [1, 3, 4] (k := ?_)
    repeat refine gwp_seq ?_
    refine gwp_region ?_
    refine v0 (k := ?_)
    refine v1 (hc := kWf1.h {}) (k := ?_)
    refine v0 (k := ?_)
    refine pc0 (spec := r_personW c _) (hent := ent89) (k := ?_)
    refine v0 (k := ?_)
    refine v0 (k := ?_)
    refine b0 (k1 := fun hb2 => ?_) (k0 := fun hb2 => ?_)
    · replace hb2 := hB.h {} hb2
      refine x0 (k := ?_)
      refine x0 (k := ?_)
      refine x0 (k := ?_)
      refine x0 (k := ?_)
      refine x0 (k := ?_)
      refine v0 (k := ?_)
      refine v0 (k := ?_)
      refine x0 (k := ?_)
      refine x0 (k := ?_)
      refine x0 (k := ?_)
      refine x0 (k := ?_)
      refine x0 (k := ?_)
      refine v0 (k := ?_)
      refine nil0 ?_
      repeat refine gwp_seq ?_
      refine cT (k := ?_)
      repeat refine gwp_seq ?_
      refine gwp_region ?_
      refine v0 (k := ?_)
      refine nil0 ?_
      repeat refine gwp_seq ?_
      refine gwp_ret ?_
      repeat (first | refine gthen_ret ?_ | refine gblock_ret ?_ | refine gnoGoto_ret ?_)
      refine fin_ret ?_
      refine fp (hR := ?_)
      first
      | (rw [valid_badK hz (by simp only [badKW]; simp [*]; done)]; rfl)
      | (rw [valid_badR hw (by simp only [badRW]; simp [*]; done)]; rfl)
      | (rw [valid_end ha hr]
         simp only [PRes.at, GRes.ok.injEq, G.p.injEq, P.bool.injEq, and_true]
         first | (simp [*]; done) | (symm; simp; omega) | (simp; omega))
    · replace hb2 := hB.h {} hb2
      refine w0 (k := ?_)
      refine w1 (hc := kWf1.h {}) (k := ?_)
      refine w0 (k := ?_)
      refine pcw (spec := r_personW c _) (hent := ent89) (k := ?_)
      refine w0 (k := ?_)
      refine v0 (k := ?_)
      refine v0 (k := ?_)
      refine b0 (k1 := fun hb3 => ?_) (k0 := fun hb3 => ?_)
      · replace hb3 := hB.h {} hb3
        refine x0 (k := ?_)
        refine x0 (k := ?_)
        refine x0 (k := ?_)
        refine x0 (k := ?_)
        refine x0 (k := ?_)
        refine v0 (k := ?_)
        refine nil0 ?_
        repeat refine gwp_seq ?_
        refine cT (k := ?_)
        repeat refine gwp_seq ?_
        refine gwp_region ?_
        refine v0 (k := ?_)
        refine nil0 ?_
        repeat refine gwp_seq ?_
        refine gwp_ret ?_
        repeat (first | refine gthen_ret ?_ | refine gblock_ret ?_ | refine gnoGoto_ret ?_)
        refine fin_ret ?_
        refine fp (hR := ?_)
        first
        | (rw [valid_badK hz (by simp only [badKW]; simp [*]; done)]; rfl)
        | (rw [valid_badR hw (by simp only [badRW]; simp [*]; done)]; rfl)
        | (rw [valid_end ha hr]
           simp only [PRes.at, GRes.ok.injEq, G.p.injEq, P.bool.injEq, and_true]
           first | (simp [*]; done) | (symm; simp; omega) | (simp; omega))
      · replace hb3 := hB.h {} hb3
        refine w1 (hc := kWf1.h {}) (k := ?_)
        refine w0 (k := ?_)
        refine w1 (hc := kWf1.h {}) (k := ?_)
        refine w0 (k := ?_)
        refine w0 (k := ?_)
        refine v0 (k := ?_)
        refine nil0 ?_
        repeat refine gwp_seq ?_
        refine cB (k1 := fun hb4 => ?_) (k0 := fun hb4 => ?_)
        · replace hb4 := hB.h {} hb4
          repeat refine gwp_seq ?_
          refine gwp_region ?_
          refine v0 (k := ?_)
          refine nil0 ?_
          repeat refine gwp_seq ?_
          refine gwp_ret ?_
          repeat (first | refine gthen_ret ?_ | refine gblock_ret ?_ | refine gnoGoto_ret ?_)
          refine fin_ret ?_
          refine fp (hR := ?_)
          first
          | (rw [valid_badK hz (by simp only [badKW]; simp [*]; done)]; rfl)
          | (rw [valid_badR hw (by simp only [badRW]; simp [*]; done)]; rfl)
          | (rw [valid_end ha hr]
             simp only [PRes.at, GRes.ok.injEq, G.p.injEq, P.bool.injEq, and_true]
             first | (simp [*]; done) | (symm; simp; omega) | (simp; omega))
        · replace hb4 := hB.h {} hb4
          repeat refine gwp_seq ?_
          refine gwp_skip ?_
          refine cl [1, 3] (k := ?_)
          repeat refine gwp_seq ?_
          refine gwp_region ?_
          refine v0 (k := ?_)
          refine v1 (hc := kWf1.h {}) (k := ?_)
          refine v0 (k := ?_)
          refine nil0 ?_
          refine lend [1, 3] (h := ?_) (hV := ?_) (n' := c.kn.length - (k + 1))
          · omega
          exact ⟨k + 1, by omega, any_step hz (by simp only [badKW]; simp [*]; done) ha, rfl, rfl⟩
  · replace hb1 := hB.h {} hb1
    repeat refine gwp_seq ?_
    refine gwp_exit ?_
    repeat (first | refine gthen_exit ?_ | refine gnoGoto_exit ?_ | refine gblock_here ?_ | refine gblock_out rfl ?_)
    refine cl [1] (k := ?_)
    repeat refine gwp_seq ?_
    obtain rfl : k = c.kn.length := by omega
    rw [List.take_length] at ha
    refine gwp_region ?_
    refine v0 (k := ?_)
    refine nil0 ?_
    refine cl [1, 5] (k := ?_)
    repeat refine gwp_seq ?_
    refine gwp_block ?_
    repeat refine gwp_seq ?_
    refine gc_loop (fun mz σ => ∃ k : Nat, (k ≤ c.rs.length) ∧ ((c.rs.take k).any (badRW c.pl c.ps) = false) ∧ mz = c.rs.length - k ∧ σ = (sg [(1, .ref 110 0), (5, .p (.int .i64 (k : Nat)))] [(110, .cells [.p (.int .i64 c.pl), .p (.int .i64 c.ps), .p (.list (c.kn.map pk)), .p (.list (c.rs.map pr)), .p (.int .i64 c.ms)] 0)] A [] : Sg E)) ?_ (fun mz σ hI => ?_)
    · refine lbeg [1, 5] (hV := ?_)
      exact ⟨_, 0, by omega, rfl, rfl, rfl⟩
    obtain ⟨k, hk, hr, hnn, rfl⟩ := hI
    repeat refine gwp_seq ?_
    refine gwp_region ?_
    refine v0 (k := ?_)
    refine v0 (k := ?_)
    refine v0 (k := ?_)
    refine v0 (k := ?_)
    refine v0 (k := ?_)
    refine nil0 ?_
    repeat refine gwp_seq ?_
    refine cB (k1 := fun hb5 => ?_) (k0 := fun hb5 => ?_)
    · replace hb5 := hB.h {} hb5
      repeat refine gwp_seq ?_
      refine gwp_skip ?_
      refine cl [1, 5] (k := ?_)
      repeat refine gwp_seq ?_
      refine gwp_block ?_
      repeat refine gwp_seq ?_
      obtain ⟨w, hw⟩ := getE (l := c.rs) (k := k) (by omega)
      refine gwp_region ?_
      refine v0 (k := ?_)
      refine v0 (k := ?_)
      refine v0 (k := ?_)
      refine v1 (hc := kWf1.h {}) (k := ?_)
      refine v0 (k := ?_)
      refine n1 160 false (hc := kWf1.h {}) (k := ?_)
      refine s1 (hc := kWf1.h {}) (k := ?_)
      refine nil0 ?_
      refine cl [1, 5, 6] (k := ?_)
      repeat refine gwp_seq ?_
      refine gwp_region ?_
      refine v0 (k := ?_)
      refine v0 (k := ?_)
      refine v0 (k := ?_)
      refine v0 (k := ?_)
      refine q0 (k := ?_)
      refine pc0 (spec := s_inW w.p c.pl) (hent := ent50) (k := ?_)
      refine v0 (k := ?_)
      refine v0 (k := ?_)
      refine b0 (k1 := fun hb6 => ?_) (k0 := fun hb6 => ?_)
      · replace hb6 := hB.h {} hb6
        refine x0 (k := ?_)
        refine x0 (k := ?_)
        refine x0 (k := ?_)
        refine x0 (k := ?_)
        refine x0 (k := ?_)
        refine v0 (k := ?_)
        refine v0 (k := ?_)
        refine x0 (k := ?_)
        refine x0 (k := ?_)
        refine x0 (k := ?_)
        refine x0 (k := ?_)
        refine x0 (k := ?_)
        refine v0 (k := ?_)
        refine v0 (k := ?_)
        refine x0 (k := ?_)
        refine x0 (k := ?_)
        refine x0 (k := ?_)
        refine x0 (k := ?_)
        refine x0 (k := ?_)
        refine v0 (k := ?_)
        refine nil0 ?_
        repeat refine gwp_seq ?_
        refine cT (k := ?_)
        repeat refine gwp_seq ?_
        refine gwp_region ?_
        refine v0 (k := ?_)
        refine nil0 ?_
        repeat refine gwp_seq ?_
        refine gwp_ret ?_
        repeat (first | refine gthen_ret ?_ | refine gblock_ret ?_ | refine gnoGoto_ret ?_)
        refine fin_ret ?_
        refine fp (hR := ?_)
        first
        | (rw [valid_badK hz (by simp only [badKW]; simp [*]; done)]; rfl)
        | (rw [valid_badR hw (by simp only [badRW]; simp [*]; done)]; rfl)
        | (rw [valid_end ha hr]
           simp only [PRes.at, GRes.ok.injEq, G.p.injEq, P.bool.injEq, and_true]
           first | (simp [*]; done) | (symm; simp; omega) | (simp; omega))
      · replace hb6 := hB.h {} hb6
        refine w0 (k := ?_)
        refine w0 (k := ?_)
        refine w0 (k := ?_)
        refine pcw (spec := r_personW c _) (hent := ent89) (k := ?_)
        refine w0 (k := ?_)
        refine v0 (k := ?_)
        refine v0 (k := ?_)
        refine b0 (k1 := fun hb7 => ?_) (k0 := fun hb7 => ?_)
        · replace hb7 := hB.h {} hb7
          refine x0 (k := ?_)
          refine x0 (k := ?_)
          refine x0 (k := ?_)
          refine x0 (k := ?_)
          refine x0 (k := ?_)
          refine v0 (k := ?_)
          refine v0 (k := ?_)
          refine x0 (k := ?_)
          refine x0 (k := ?_)
          refine x0 (k := ?_)
          refine x0 (k := ?_)
          refine x0 (k := ?_)
          refine v0 (k := ?_)
          refine nil0 ?_
          repeat refine gwp_seq ?_
          refine cT (k := ?_)
          repeat refine gwp_seq ?_
          refine gwp_region ?_
          refine v0 (k := ?_)
          refine nil0 ?_
          repeat refine gwp_seq ?_
          refine gwp_ret ?_
          repeat (first | refine gthen_ret ?_ | refine gblock_ret ?_ | refine gnoGoto_ret ?_)
          refine fin_ret ?_
          refine fp (hR := ?_)
          first
          | (rw [valid_badK hz (by simp only [badKW]; simp [*]; done)]; rfl)
          | (rw [valid_badR hw (by simp only [badRW]; simp [*]; done)]; rfl)
          | (rw [valid_end ha hr]
             simp only [PRes.at, GRes.ok.injEq, G.p.injEq, P.bool.injEq, and_true]
             first | (simp [*]; done) | (symm; simp; omega) | (simp; omega))
        · replace hb7 := hB.h {} hb7
          refine w0 (k := ?_)
          refine w0 (k := ?_)
          refine w0 (k := ?_)
          refine pcw (spec := r_personW c _) (hent := ent89) (k := ?_)
          refine w0 (k := ?_)
          refine v0 (k := ?_)
          refine v0 (k := ?_)
          refine b0 (k1 := fun hb8 => ?_) (k0 := fun hb8 => ?_)
          · replace hb8 := hB.h {} hb8
            refine x0 (k := ?_)
            refine x0 (k := ?_)
            refine x0 (k := ?_)
            refine x0 (k := ?_)
            refine x0 (k := ?_)
            refine v0 (k := ?_)
            refine nil0 ?_
            repeat refine gwp_seq ?_
            refine cT (k := ?_)
            repeat refine gwp_seq ?_
            refine gwp_region ?_
            refine v0 (k := ?_)
            refine nil0 ?_
            repeat refine gwp_seq ?_
            refine gwp_ret ?_
            repeat (first | refine gthen_ret ?_ | refine gblock_ret ?_ | refine gnoGoto_ret ?_)
            refine fin_ret ?_
            refine fp (hR := ?_)
            first
            | (rw [valid_badK hz (by simp only [badKW]; simp [*]; done)]; rfl)
            | (rw [valid_badR hw (by simp only [badRW]; simp [*]; done)]; rfl)
            | (rw [valid_end ha hr]
               simp only [PRes.at, GRes.ok.injEq, G.p.injEq, P.bool.injEq, and_true]
               first | (simp [*]; done) | (symm; simp; omega) | (simp; omega))
          · replace hb8 := hB.h {} hb8
            refine w0 (k := ?_)
            refine w0 (k := ?_)
            refine w0 (k := ?_)
            refine w0 (k := ?_)
            refine w0 (k := ?_)
            refine v0 (k := ?_)
            refine nil0 ?_
            repeat refine gwp_seq ?_
            refine cB (k1 := fun hb9 => ?_) (k0 := fun hb9 => ?_)
            · replace hb9 := hB.h {} hb9
              repeat refine gwp_seq ?_
              refine gwp_region ?_
              refine v0 (k := ?_)
              refine nil0 ?_
              repeat refine gwp_seq ?_
              refine gwp_ret ?_
              repeat (first | refine gthen_ret ?_ | refine gblock_ret ?_ | refine gnoGoto_ret ?_)
              refine fin_ret ?_
              refine fp (hR := ?_)
              first
              | (rw [valid_badK hz (by simp only [badKW]; simp [*]; done)]; rfl)
              | (rw [valid_badR hw (by simp only [badRW]; simp [*]; done)]; rfl)
              | (rw [valid_end ha hr]
                 simp only [PRes.at, GRes.ok.injEq, G.p.injEq, P.bool.injEq, and_true]
                 first | (simp [*]; done) | (symm; simp; omega) | (simp; omega))
            · replace hb9 := hB.h {} hb9
              repeat refine gwp_seq ?_
              refine gwp_skip ?_
              refine cl [1, 5] (k := ?_)
              repeat refine gwp_seq ?_
              refine gwp_region ?_
              refine v0 (k := ?_)
              refine v1 (hc := kWf1.h {}) (k := ?_)
              refine v0 (k := ?_)
              refine nil0 ?_
              refine lend [1, 5] (h := ?_) (hV := ?_) (n' := c.rs.length - (k + 1))
              · omega
              exact ⟨k + 1, by omega, any_step hw (by simp only [badRW]; simp [*]; done) hr, rfl, rfl⟩
    · replace hb5 := hB.h {} hb5
      repeat refine gwp_seq ?_
      refine gwp_exit ?_
      repeat (first | refine gthen_exit ?_ | refine gnoGoto_exit ?_ | refine gblock_here ?_ | refine gblock_out rfl ?_)
      refine cl [1] (k := ?_)
      repeat refine gwp_seq ?_
      obtain rfl : k = c.rs.length := by omega
      rw [List.take_length] at hr
      refine gwp_region ?_
      refine v0 (k := ?_)
      refine v0 (k := ?_)
      refine pc0 (spec := s_in _ _ _) (hent := ent50) (k := ?_)
      refine v0 (k := ?_)
      refine b0 (k1 := fun hb10 => ?_) (k0 := fun hb10 => ?_)
      · replace hb10 := hB.h {} hb10
        refine w0 (k := ?_)
        refine w0 (k := ?_)
        refine pcw (spec := s_in _ _ _) (hent := ent50) (k := ?_)
        refine v0 (k := ?_)
        refine v0 (k := ?_)
        refine b0 (k1 := fun hb11 => ?_) (k0 := fun hb11 => ?_)
        · replace hb11 := hB.h {} hb11
          refine w0 (k := ?_)
          refine w0 (k := ?_)
          refine w0 (k := ?_)
          refine w0 (k := ?_)
          refine v0 (k := ?_)
          refine v0 (k := ?_)
          refine b0 (k1 := fun hb12 => ?_) (k0 := fun hb12 => ?_)
          · replace hb12 := hB.h {} hb12
            refine w0 (k := ?_)
            refine w0 (k := ?_)
            refine w0 (k := ?_)
            refine w0 (k := ?_)
            refine v0 (k := ?_)
            refine v0 (k := ?_)
            refine b0 (k1 := fun hb13 => ?_) (k0 := fun hb13 => ?_)
            · replace hb13 := hB.h {} hb13
              refine w0 (k := ?_)
              refine w0 (k := ?_)
              refine pcw (spec := s_in _ _ _) (hent := ent50) (k := ?_)
              refine v0 (k := ?_)
              refine v0 (k := ?_)
              refine nil0 ?_
              repeat refine gwp_seq ?_
              refine gwp_ret ?_
              repeat (first | refine gthen_ret ?_ | refine gblock_ret ?_ | refine gnoGoto_ret ?_)
              refine fin_ret ?_
              refine fp (hR := ?_)
              first
              | (rw [valid_badK hz (by simp only [badKW]; simp [*]; done)]; rfl)
              | (rw [valid_badR hw (by simp only [badRW]; simp [*]; done)]; rfl)
              | (rw [valid_end ha hr]
                 simp only [PRes.at, GRes.ok.injEq, G.p.injEq, P.bool.injEq, and_true]
                 first | (simp [*]; done) | (symm; simp; omega) | (simp; omega))
            · replace hb13 := hB.h {} hb13
              refine x0 (k := ?_)
              refine x0 (k := ?_)
              refine x0 (k := ?_)
              refine v0 (k := ?_)
              refine v0 (k := ?_)
              refine nil0 ?_
              repeat refine gwp_seq ?_
              refine gwp_ret ?_
              repeat (first | refine gthen_ret ?_ | refine gblock_ret ?_ | refine gnoGoto_ret ?_)
              refine fin_ret ?_
              refine fp (hR := ?_)
              first
              | (rw [valid_badK hz (by simp only [badKW]; simp [*]; done)]; rfl)
              | (rw [valid_badR hw (by simp only [badRW]; simp [*]; done)]; rfl)
              | (rw [valid_end ha hr]
                 simp only [PRes.at, GRes.ok.injEq, G.p.injEq, P.bool.injEq, and_true]
                 first | (simp [*]; done) | (symm; simp; omega) | (simp; omega))
          · replace hb12 := hB.h {} hb12
            refine x0 (k := ?_)
            refine x0 (k := ?_)
            refine x0 (k := ?_)
            refine x0 (k := ?_)
            refine v0 (k := ?_)
            refine v0 (k := ?_)
            refine x0 (k := ?_)
            refine x0 (k := ?_)
            refine x0 (k := ?_)
            refine v0 (k := ?_)
            refine v0 (k := ?_)
            refine nil0 ?_
            repeat refine gwp_seq ?_
            refine gwp_ret ?_
            repeat (first | refine gthen_ret ?_ | refine gblock_ret ?_ | refine gnoGoto_ret ?_)
            refine fin_ret ?_
            refine fp (hR := ?_)
            first
            | (rw [valid_badK hz (by simp only [badKW]; simp [*]; done)]; rfl)
            | (rw [valid_badR hw (by simp only [badRW]; simp [*]; done)]; rfl)
            | (rw [valid_end ha hr]
               simp only [PRes.at, GRes.ok.injEq, G.p.injEq, P.bool.injEq, and_true]
               first | (simp [*]; done) | (symm; simp; omega) | (simp; omega))
        · replace hb11 := hB.h {} hb11
          refine x0 (k := ?_)
          refine x0 (k := ?_)
          refine x0 (k := ?_)
          refine x0 (k := ?_)
          refine v0 (k := ?_)
          refine v0 (k := ?_)
          refine x0 (k := ?_)
          refine x0 (k := ?_)
          refine x0 (k := ?_)
          refine x0 (k := ?_)
          refine v0 (k := ?_)
          refine v0 (k := ?_)
          refine x0 (k := ?_)
          refine x0 (k := ?_)
          refine x0 (k := ?_)
          refine v0 (k := ?_)
          refine v0 (k := ?_)
          refine nil0 ?_
          repeat refine gwp_seq ?_
          refine gwp_ret ?_
          repeat (first | refine gthen_ret ?_ | refine gblock_ret ?_ | refine gnoGoto_ret ?_)
          refine fin_ret ?_
          refine fp (hR := ?_)
          first
          | (rw [valid_badK hz (by simp only [badKW]; simp [*]; done)]; rfl)
          | (rw [valid_badR hw (by simp only [badRW]; simp [*]; done)]; rfl)
          | (rw [valid_end ha hr]
             simp only [PRes.at, GRes.ok.injEq, G.p.injEq, P.bool.injEq, and_true]
             first | (simp [*]; done) | (symm; simp; omega) | (simp; omega))
      · replace hb10 := hB.h {} hb10
        refine x0 (k := ?_)
        refine x0 (k := ?_)
        refine x0 (k := ?_)
        refine v0 (k := ?_)
        refine v0 (k := ?_)
        refine x0 (k := ?_)
        refine x0 (k := ?_)
        refine x0 (k := ?_)
        refine x0 (k := ?_)
        refine v0 (k := ?_)
        refine v0 (k := ?_)
        refine x0 (k := ?_)
        refine x0 (k := ?_)
        refine x0 (k := ?_)
        refine x0 (k := ?_)
        refine v0 (k := ?_)
        refine v0 (k := ?_)
        refine x0 (k := ?_)
        refine x0 (k := ?_)
        refine x0 (k := ?_)
        refine v0 (k := ?_)
        refine v0 (k := ?_)
        refine nil0 ?_
        repeat refine gwp_seq ?_
        refine gwp_ret ?_
        repeat (first | refine gthen_ret ?_ | refine gblock_ret ?_ | refine gnoGoto_ret ?_)
        refine fin_ret ?_
        refine fp (hR := ?_)
        first
        | (rw [valid_badK hz (by simp only [badKW]; simp [*]; done)]; rfl)
        | (rw [valid_badR hw (by simp only [badRW]; simp [*]; done)]; rfl)
        | (rw [valid_end ha hr]
           simp only [PRes.at, GRes.ok.injEq, G.p.injEq, P.bool.injEq, and_true]
           first | (simp [*]; done) | (symm; simp; omega) | (simp; omega))
end Go.Proofs.Ytagdholenfkeaaa

/- What the statements leave out. -/
namespace Go.Proofs.Ytagdholenfkeaaa
open Go.Gh
set_option maxRecDepth 100000
set_option maxHeartbeats 4000000
structure kWm1 (c : Prop) : Prop where
  h : c := by (first | exact True.intro | (simp only [inI]; omega) | (simp [P.size, pr, pk, all_int, allOne_p, goods_p, allOne, goods, good, G.one, P.one, P.cells] <;> first | omega | assumption | simp_all))
/-- Is there far too much of something? -/
def greatB (c : Ch) (n : Int) : Bool := decide (60 < c.kn.length ∨ 60 < c.rs.length) || (decide (n < (c.rs.length : Int)) && c.valid)
theorem great_len {c : Ch} {n : Int} (h : greatB c n = false) : c.kn.length ≤ 60 ∧ c.rs.length ≤ 60 := by
  simp only [greatB, Bool.or_eq_false_iff, decide_eq_false_iff_not] at h
  omega
theorem ent13 : Enters Try.prog 13 := Enters.mk Try.func13 (by kernel_rfl) rfl
theorem l_great_t (c : Ch) (n : Int) (h : 60 < c.kn.length ∨ 60 < c.rs.length) : PSpec Try.prog 13 [.agg [.int .i64 c.pl, .int .i64 c.ps, .list (c.kn.map pk), .list (c.rs.map pr), .int .i64 c.ms], .int .i64 n] (.ok (.bool true)) := by
  refine pspec_of Try.func13 (rfl : Try.f13.body = some _) rfl ?_
  intro E A C hN hL
  replace hN : C.N = 24 := hN
  simp only [Gh.num, List.map_cons, List.map_nil, Nat.reduceAdd]
  repeat refine gwp_seq ?_
  refine gwp_region ?_
  refine n1 120 false (hc := kWm1.h {}) (k := ?_)
  refine v0 (k := ?_)
  refine nil0 ?_
  refine cl [1, 2] (k := ?_)
  repeat refine gwp_seq ?_
  refine gwp_region ?_
  refine v0 (k := ?_)
  refine v0 (k := ?_)
  refine v0 (k := ?_)
  refine v0 (k := ?_)
  refine v0 (k := ?_)
  refine v0 (k := ?_)
  refine v0 (k := ?_)
  refine v0 (k := ?_)
  refine rb 12 true (h := by (exact decide_eq_true (by omega))) (k := ?_)
  refine v0 (k := ?_)
  refine x0 (k := ?_)
  refine x0 (k := ?_)
  refine x0 (k := ?_)
  refine x0 (k := ?_)
  refine x0 (k := ?_)
  refine x0 (k := ?_)
  refine x1 (k := ?_)
  refine x1 (k := ?_)
  refine x0 (k := ?_)
  refine v0 (k := ?_)
  refine v0 (k := ?_)
  refine nil0 ?_
  repeat refine gwp_seq ?_
  refine gwp_ret ?_
  repeat (first | refine gthen_ret ?_ | refine gblock_ret ?_ | refine gnoGoto_ret ?_)
  refine fin_ret ?_
  refine fp (hR := ?_)
  rfl
theorem l_great_f (c : Ch) (n : Int) (h1 : c.kn.length ≤ 60) (h2 : c.rs.length ≤ 60) : PSpec Try.prog 13 [.agg [.int .i64 c.pl, .int .i64 c.ps, .list (c.kn.map pk), .list (c.rs.map pr), .int .i64 c.ms], .int .i64 n] (.ok (.bool (decide (n < (c.rs.length : Int)) && c.valid))) := by
  refine pspec_of Try.func13 (rfl : Try.f13.body = some _) rfl ?_
  intro E A C hN hL
  replace hN : C.N = 24 := hN
  simp only [Gh.num, List.map_cons, List.map_nil, Nat.reduceAdd]
  repeat refine gwp_seq ?_
  refine gwp_region ?_
  refine n1 120 false (hc := kWm1.h {}) (k := ?_)
  refine v0 (k := ?_)
  refine nil0 ?_
  refine cl [1, 2] (k := ?_)
  repeat refine gwp_seq ?_
  refine gwp_region ?_
  refine v0 (k := ?_)
  refine v0 (k := ?_)
  refine v0 (k := ?_)
  refine v0 (k := ?_)
  refine v0 (k := ?_)
  refine v0 (k := ?_)
  refine v0 (k := ?_)
  refine v0 (k := ?_)
  refine rb 12 false (h := by (exact decide_eq_false (by omega))) (k := ?_)
  refine v0 (k := ?_)
  refine w0 (k := ?_)
  refine w0 (k := ?_)
  refine w0 (k := ?_)
  refine w0 (k := ?_)
  refine w0 (k := ?_)
  refine w0 (k := ?_)
  refine b0 (k1 := fun hb1 => ?_) (k0 := fun hb1 => ?_)
  · replace hb1 := hB.h {} hb1
    refine w0 (k := ?_)
    refine pcw (spec := r_chain c (by omega) (by omega)) (hent := ent35) (k := ?_)
    refine w0 (k := ?_)
    refine v0 (k := ?_)
    refine v0 (k := ?_)
    refine nil0 ?_
    repeat refine gwp_seq ?_
    refine gwp_ret ?_
    repeat (first | refine gthen_ret ?_ | refine gblock_ret ?_ | refine gnoGoto_ret ?_)
    refine fin_ret ?_
    refine fp (hR := ?_)
    first
    | rfl
    | (rw [decide_eq_false (show ¬ n < (c.rs.length : Int) by omega)]; rfl)
    | (rw [decide_eq_true (show n < (c.rs.length : Int) by omega)]; rfl)
  · replace hb1 := hB.h {} hb1
    refine x0 (k := ?_)
    refine x0 (k := ?_)
    refine w0 (k := ?_)
    refine v0 (k := ?_)
    refine v0 (k := ?_)
    refine nil0 ?_
    repeat refine gwp_seq ?_
    refine gwp_ret ?_
    repeat (first | refine gthen_ret ?_ | refine gblock_ret ?_ | refine gnoGoto_ret ?_)
    refine fin_ret ?_
    refine fp (hR := ?_)
    first
    | rfl
    | (rw [decide_eq_false (show ¬ n < (c.rs.length : Int) by omega)]; rfl)
    | (rw [decide_eq_true (show n < (c.rs.length : Int) by omega)]; rfl)
theorem l_great (c : Ch) (n : Int) : PSpec Try.prog 13 [.agg [.int .i64 c.pl, .int .i64 c.ps, .list (c.kn.map pk), .list (c.rs.map pr), .int .i64 c.ms], .int .i64 n] (.ok (.bool (greatB c n))) := by
  by_cases h : 60 < c.kn.length ∨ 60 < c.rs.length
  · rw [greatB, decide_eq_true h]; exact l_great_t c n h
  · rw [greatB, decide_eq_false h]; exact l_great_f c n (by omega) (by omega)
end Go.Proofs.Ytagdholenfkeaaa

/- What the program says of chains that are valid, for plates and persons that there are. -/
namespace Go.Proofs.Ytagdholenfkeaaa
open Go.Gh
set_option maxRecDepth 100000
set_option maxHeartbeats 4000000
theorem w_where_t (c : Ch) (hv : c.valid = true) (p : Nat) (hp : (p : Int) < c.pl) (hc : leastC c ≤ c.ms) : PSpec Try.prog 24 [.agg [.int .i64 c.pl, .int .i64 c.ps, .list (c.kn.map pk), .list (c.rs.map pr), .int .i64 c.ms], .int .i64 (p : Nat)] (.ok (.tuple [.int .i64 (whereC c (p : Nat) : Nat), .int .i64 0])) := fun E A => p_where_t c hv p (by simp only [inQ]; rw [decide_eq_true (by omega), decide_eq_true (by omega)]; rfl) hc
theorem w_where_c (c : Ch) (hv : c.valid = true) (p : Nat) (hp : (p : Int) < c.pl) (hc : ¬ leastC c ≤ c.ms) : PSpec Try.prog 24 [.agg [.int .i64 c.pl, .int .i64 c.ps, .list (c.kn.map pk), .list (c.rs.map pr), .int .i64 c.ms], .int .i64 (p : Nat)] (.ok (.tuple [.int .i64 0, .int .i64 10])) := fun E A => p_where_c c hv p (by simp only [inQ]; rw [decide_eq_true (by omega), decide_eq_true (by omega)]; rfl) hc
theorem w_hands_t (c : Ch) (hv : c.valid = true) (p : Nat) (hp : (p : Int) < c.pl) (hc : leastC c ≤ c.ms) : PSpec Try.prog 26 [.agg [.int .i64 c.pl, .int .i64 c.ps, .list (c.kn.map pk), .list (c.rs.map pr), .int .i64 c.ms], .int .i64 (p : Nat)] (.ok (.tuple [.int .i64 (setN (surQ c (p : Nat)) c.ps.toNat : Nat), .int .i64 (setN (canQ c (p : Nat)) c.ps.toNat : Nat), .int .i64 0])) := fun E A => p_hands_t c hv p (by simp only [inQ]; rw [decide_eq_true (by omega), decide_eq_true (by omega)]; rfl) hc
theorem w_hands_c (c : Ch) (hv : c.valid = true) (p : Nat) (hp : (p : Int) < c.pl) (hc : ¬ leastC c ≤ c.ms) : PSpec Try.prog 26 [.agg [.int .i64 c.pl, .int .i64 c.ps, .list (c.kn.map pk), .list (c.rs.map pr), .int .i64 c.ms], .int .i64 (p : Nat)] (.ok (.tuple [.int .i64 0, .int .i64 0, .int .i64 10])) := fun E A => p_hands_c c hv p (by simp only [inQ]; rw [decide_eq_true (by omega), decide_eq_true (by omega)]; rfl) hc
theorem w_holds_t (c : Ch) (hv : c.valid = true) (u : Nat) (hu : u < c.ps.toNat) (hc : leastC c ≤ c.ms) : PSpec Try.prog 28 [.agg [.int .i64 c.pl, .int .i64 c.ps, .list (c.kn.map pk), .list (c.rs.map pr), .int .i64 c.ms], .int .i64 (u : Nat)] (.ok (.tuple [.int .i64 (sureH c u c.pl.toNat : Nat), .int .i64 (canH c u c.pl.toNat : Nat), .int .i64 0])) := fun E A => p_holds_t c hv u (by simp only [inQ]; rw [decide_eq_true (by omega), decide_eq_true (by omega)]; rfl) (by have := valid_num hv; omega) hc
theorem w_holds_c (c : Ch) (hv : c.valid = true) (u : Nat) (hu : u < c.ps.toNat) (hc : ¬ leastC c ≤ c.ms) : PSpec Try.prog 28 [.agg [.int .i64 c.pl, .int .i64 c.ps, .list (c.kn.map pk), .list (c.rs.map pr), .int .i64 c.ms], .int .i64 (u : Nat)] (.ok (.tuple [.int .i64 0, .int .i64 0, .int .i64 10])) := fun E A => p_holds_c c hv u (by simp only [inQ]; rw [decide_eq_true (by omega), decide_eq_true (by omega)]; rfl) hc
theorem w_least_t (c : Ch) (hv : c.valid = true) (hc : leastC c < 1048576) : PSpec Try.prog 21 [.agg [.int .i64 c.pl, .int .i64 c.ps, .list (c.kn.map pk), .list (c.rs.map pr), .int .i64 c.ms]] (.ok (.tuple [.int .i64 (leastC c), .int .i64 0])) := fun E A => p_least_t c hv hc
theorem w_least_c (c : Ch) (hv : c.valid = true) (hc : ¬ leastC c < 1048576) : PSpec Try.prog 21 [.agg [.int .i64 c.pl, .int .i64 c.ps, .list (c.kn.map pk), .list (c.rs.map pr), .int .i64 c.ms]] (.ok (.tuple [.int .i64 0, .int .i64 10])) := fun E A => p_least_c c hv hc
theorem w_holder (c : Ch) (hv : c.valid = true) (p : Nat) (hp : (p : Int) < c.pl) (n : Nat) (hn2 : n ≤ c.rs.length) : PSpec Try.prog 15 [.agg [.int .i64 c.pl, .int .i64 c.ps, .list (c.kn.map pk), .list (c.rs.map pr), .int .i64 c.ms], .int .i64 (p : Nat), .int .i64 (n : Nat)] (.ok (.tuple [.int .i64 (holN (p : Nat) c.rs n), .int .i64 0])) := fun E A => p_holder_t c hv p n (by simp only [holdQ, inQ]; rw [decide_eq_true (by omega), decide_eq_true (by omega), decide_eq_true (by omega), decide_eq_true (by omega)]; rfl)
theorem w_break (c : Ch) (hv : c.valid = true) (p : Nat) (hp : (p : Int) < c.pl) : PSpec Try.prog 17 [.agg [.int .i64 c.pl, .int .i64 c.ps, .list (c.kn.map pk), .list (c.rs.map pr), .int .i64 c.ms], .int .i64 (p : Nat)] (.ok (.tuple [.int .i64 (brkV c (p : Nat)).1, .int .i64 (brkV c (p : Nat)).2])) := fun E A => p_break_t c hv p (by simp only [inQ]; rw [decide_eq_true (by omega), decide_eq_true (by omega)]; rfl)
theorem w_drop (c : Ch) (hv : c.valid = true) : PSpec Try.prog 30 [.agg [.int .i64 c.pl, .int .i64 c.ps, .list (c.kn.map pk), .list (c.rs.map pr), .int .i64 c.ms]] (.ok (.tuple [.int .i64 (dropV c : Nat), .int .i64 0])) := fun E A => p_drop_t c hv
theorem great_val {c : Ch} {n : Int} (h : greatB c n = false) (hv : c.valid = true) : (c.rs.length : Int) ≤ n := by
  simp only [greatB, hv, Bool.and_true, Bool.or_eq_false_iff, decide_eq_false_iff_not] at h
  omega
theorem tmod_nat {b : Nat} {m : Int} (h : 1 ≤ m ∧ m ≤ 8) : ∃ u : Nat, (b : Int).tmod m = (u : Int) ∧ u < m.toNat ∧ u = b % m.toNat := by
  refine ⟨b % m.toNat, ?_, Nat.mod_lt _ (by omega), rfl⟩
  conv => lhs; rw [show m = ((m.toNat : Nat) : Int) by omega]
  exact (Int.ofNat_tmod b m.toNat).symm
theorem shr_b (w l : Nat) (hl : l ≤ 60) : (w : Int).fdiv (2 ^ min l IntKind.i64.bits) = ((w / 2 ^ l : Nat) : Int) := shr_i w l hl
theorem shr_z {w l : Nat} (hl : l ≤ 60) (h : w < 2 ^ l) : (w : Int).fdiv (2 ^ min l IntKind.i64.bits) = 0 := by rw [shr_b w l hl, Nat.div_eq_of_lt h]; rfl
theorem shl_b (n : Nat) (h : n ≤ 40) : IntKind.i64.wrap (1 * 2 ^ min n IntKind.i64.bits) = ((2 ^ n : Nat) : Int) := shl1_i64 n h
theorem beq_b (b : Bool) : (b == b) = true := by cases b <;> rfl
/-- A bit. -/
def bitN (w l : Nat) : Int := ((w / 2 ^ l % 2 : Nat) : Int)
theorem and_b (w l : Nat) (hw : w < 2 ^ 62) : bitop .and .i64 ((w / 2 ^ l : Nat) : Int) 1 = bitN w l := and1_i _ (Nat.lt_of_le_of_lt (Nat.div_le_self _ _) hw)
theorem bitN_t {w l : Nat} (h : w.testBit l = true) : bitN w l = 1 := by rw [bitN, bit_one.2 h]; rfl
theorem bitN_f {w l : Nat} (h : w.testBit l = false) : bitN w l = 0 := by rw [bitN, bit_zero.2 h]; rfl
theorem bitN_same {w v l m : Nat} (h : w.testBit l = v.testBit m) : bitN w l = bitN v m := by
  cases e : v.testBit m with
  | true => rw [bitN_t (h.trans e), bitN_t e]
  | false => rw [bitN_f (h.trans e), bitN_f e]
end Go.Proofs.Ytagdholenfkeaaa

/- Some of the records; the fewest that must be wrong. -/
namespace Go.Proofs.Ytagdholenfkeaaa
open Go.Gh
/-- The records of a set. -/
def prs (set : Nat) (rs : List Rc) : Nat → List Rc
  | 0 => []
  | k + 1 => match rs[k]? with
    | some r => if set.testBit k = true then prs set rs k ++ [r] else prs set rs k
    | none => prs set rs k
theorem prs_next {set : Nat} {rs : List Rc} {k : Nat} {r : Rc} (h : rs[k]? = some r) (hb : set.testBit k = true) : prs set rs (k + 1) = prs set rs k ++ [r] := by simp only [prs, h]; rw [if_pos hb]
theorem prs_skip {set : Nat} {rs : List Rc} {k : Nat} {r : Rc} (h : rs[k]? = some r) (hb : set.testBit k = false) : prs set rs (k + 1) = prs set rs k := by simp only [prs, h]; rw [if_neg (by simp [hb])]
theorem prs_len {set : Nat} {rs : List Rc} : ∀ k, (prs set rs k).length ≤ k
  | 0 => by simp [prs]
  | k + 1 => by
    have := prs_len (set := set) (rs := rs) k
    simp only [prs]; split
    · split <;> simp <;> omega
    · omega
theorem prs_mem {set : Nat} {rs : List Rc} : ∀ k, ∀ r ∈ prs set rs k, r ∈ rs
  | 0, r, h => by simp [prs] at h
  | k + 1, r, h => by
    simp only [prs] at h
    split at h
    · rename_i r' hr
      split at h
      · rcases List.mem_append.1 h with h | h
        · exact prs_mem k r h
        · simp at h; subst h; exact List.mem_of_getElem? hr
      · exact prs_mem k r h
    · exact prs_mem k r h
def Ch.part (c : Ch) (set : Nat) : Ch := { c with rs := prs set c.rs c.rs.length }
/-- From holder to holder, record by record. -/
def totR (f : Mx) (h : Nat) : List Rc → Int
  | [] => 0
  | r :: l => f h r.f.toNat + totR f r.t.toNat l
theorem tot_R (f : Mx) : ∀ (l : List (Nat × Rc)) (h : Int), totV f (toL h l) = totR f h.toNat (l.map (·.2))
  | [], h => rfl
  | e :: l, h => by
    have := tot_R f l e.2.t
    simp only [toL, totV, leastV, List.map_cons, totR]
    rw [this]
theorem steps_R (f : Mx) (l : List (Nat × Rc)) : totV f (stepsL l) = totR f 0 (l.map (·.2)) := by
  rw [stepsL, totV_snoc, tot_R]; simp [leastV]
theorem part_sel {p : Int} {set : Nat} {rs : List Rc} : ∀ k, (selN p (allS (prs set rs k).length) (prs set rs k) (prs set rs k).length).map (·.2) = (selN p set rs k).map (·.2)
  | 0 => rfl
  | k + 1 => by
    have ih := part_sel (p := p) (set := set) (rs := rs) k
    cases hr : rs[k]? with
    | none =>
      have h1 : prs set rs (k + 1) = prs set rs k := by simp only [prs, hr]
      have h2 : selN p set rs (k + 1) = selN p set rs k := by simp only [selN, hr]
      rw [h1, h2, ih]
    | some r =>
      cases hb : set.testBit k with
      | false => rw [prs_skip hr hb, sel_skip2 hr hb, ih]
      | true =>
        rw [prs_next hr hb, sel_snoc]
        by_cases hp : r.p = p
        · rw [if_pos hp, sel_next hr hp hb, List.map_append, List.map_append, ih]; rfl
        · rw [if_neg hp, sel_skip1 hr hp, ih]
theorem part_all (f : Mx) (c : Ch) (set : Nat) : ∀ k, allV f (c.part set).rs (allS (c.part set).rs.length) k = allV f c.rs set k
  | 0 => rfl
  | k + 1 => by
    simp only [allV]
    rw [part_all f c set k, steps_R, steps_R]
    have := part_sel (p := (k : Nat)) (set := set) (rs := c.rs) c.rs.length
    simp only [Ch.part]
    rw [this]
theorem part_least (c : Ch) (set : Nat) : leastC (c.part set) = allV (D (eF c.kn (-1))) c.rs set c.pl.toNat := part_all (D (eF c.kn (-1))) c set c.pl.toNat
theorem part_valid {c : Ch} (hv : c.valid = true) (set : Nat) : (c.part set).valid = true := by
  have hn := valid_num hv
  have hl := prs_len (set := set) (rs := c.rs) c.rs.length
  have key : ∀ l : List Rc, ({ c with rs := l } : Ch).valid = (c.head && decide ((c.kn.length : Int) ≤ 28) && decide ((l.length : Int) ≤ 12) && !c.kn.any (badK c.ps) && !l.any (badR c.pl c.ps)) := fun l => rfl
  have h0 := key c.rs
  rw [show ({ c with rs := c.rs } : Ch) = c from rfl, hv] at h0
  have h1 := h0.symm
  rw [decide_eq_true (show ((c.rs.length : Nat) : Int) ≤ 12 by omega)] at h1
  simp only [Bool.and_eq_true, Bool.not_eq_true', Bool.and_true] at h1
  have h2 : (prs set c.rs c.rs.length).any (badR c.pl c.ps) = false := by
    cases e : (prs set c.rs c.rs.length).any (badR c.pl c.ps) with
    | false => rfl
    | true =>
      obtain ⟨r, hr, hb⟩ := List.any_eq_true.1 e
      have := List.any_eq_true.2 ⟨r, prs_mem _ r hr, hb⟩
      rw [h1.2] at this; cases this
  rw [Ch.part, key, h2, decide_eq_true (show (((prs set c.rs c.rs.length).length : Nat) : Int) ≤ 12 by omega)]
  simp only [h1.1.1.1, h1.1.1.2, h1.1.2, h1.2, Bool.and_true, Bool.not_false, Bool.and_self]
/-- Is there a truth with the records of a set? -/
def canD (c : Ch) (set : Nat) : Bool := decide (allV (D (eF c.kn (-1))) c.rs set c.pl.toNat ≤ c.ms)
theorem canD_ok (c : Ch) (s : Nat) : canD c (restS c.rs.length s) = okD c s := rfl
theorem sel_none {p : Int} {rs : List Rc} : ∀ k, selN p 0 rs k = []
  | 0 => rfl
  | k + 1 => by
    simp only [selN]
    split
    · rw [if_neg (by simp), sel_none k]
    · exact sel_none k
theorem all_none (f : Mx) (rs : List Rc) : ∀ k, allV f rs 0 k = 0
  | 0 => rfl
  | k + 1 => by rw [allV, all_none f rs k, sel_none]; rfl
theorem canD_zero {c : Ch} (hv : c.valid = true) : canD c 0 = true := by
  have hn := valid_num hv
  rw [canD, all_none]; exact decide_eq_true (by omega)
theorem rest_all (n : Nat) (hn : n ≤ 12) : restS n (allS n) = 0 := by
  have hp := Nat.two_pow_pos n
  have h12 : 2 ^ n ≤ 2 ^ 12 := Nat.pow_le_pow_right (by omega) hn
  simp only [restS, allS]
  apply Nat.eq_of_testBit_eq
  intro i
  rw [Nat.testBit_and, Nat.testBit_two_pow_sub_one, show 2 ^ 64 - 1 - (2 ^ n - 1) = 2 ^ 64 - ((2 ^ n - 1) + 1) by omega, Nat.testBit_two_pow_sub_succ (by omega), Nat.testBit_two_pow_sub_one, Nat.zero_testBit]
  cases decide (i < n) <;> simp
theorem rest_zero (n : Nat) (hn : n ≤ 12) : restS n 0 = allS n := by
  have hp := Nat.two_pow_pos n
  have h12 : 2 ^ n ≤ 2 ^ 12 := Nat.pow_le_pow_right (by omega) hn
  simp only [restS, allS]
  apply Nat.eq_of_testBit_eq
  intro i
  rw [Nat.testBit_and, Nat.testBit_two_pow_sub_one, show 2 ^ 64 - 1 - 0 = 2 ^ 64 - 1 by omega, Nat.testBit_two_pow_sub_one]
  by_cases hi : i < n
  · rw [decide_eq_true hi, decide_eq_true (show i < 64 by omega)]; rfl
  · rw [decide_eq_false hi]; rfl
theorem least_nat {p : Nat → Bool} : ∀ n, (∃ k, k < n ∧ p k = true) → ∃ k, k < n ∧ p k = true ∧ ∀ i, i < k → p i = false
  | 0, ⟨k, hk, _⟩ => by omega
  | n + 1, ⟨k, hk, hp⟩ => by
    by_cases h : ∃ k, k < n ∧ p k = true
    · obtain ⟨k, h1, h2, h3⟩ := least_nat n h
      exact ⟨k, by omega, h2, h3⟩
    · refine ⟨k, hk, hp, fun i hi => ?_⟩
      cases e : p i with
      | false => rfl
      | true => exact absurd ⟨i, by omega, e⟩ h
theorem popN_le : ∀ n, n ≤ 12 → ∀ x, x < 2 ^ n → pop x ≤ n
  | 0, _, x, hx => by
    obtain rfl : x = 0 := by simpa using hx
    decide
  | n + 1, h, x, hx => by
    have h12 : 2 ^ (n + 1) ≤ 2 ^ 12 := Nat.pow_le_pow_right (by omega) h
    have hs : 2 ^ (n + 1) = 2 * 2 ^ n := by rw [Nat.pow_succ]; omega
    have h1 : pop x = x % 2 + pop (x / 2) := by
      show x % 2 + popF 63 (x / 2) = x % 2 + popF 64 (x / 2)
      rw [show popF 64 (x / 2) = popF 63 (x / 2) from pop_fuel 63 (x / 2) (by omega)]
    have := popN_le n (by omega) (x / 2) (by omega)
    omega
where
  pop_fuel : ∀ (f q : Nat), q < 2 ^ f → popF (f + 1) q = popF f q
    | 0, q, h => by
      have : q = 0 := by simpa using h
      subst this; rfl
    | f + 1, q, h => by
      rw [popF, pop_fuel f (q / 2) (by rw [Nat.pow_succ] at h; omega), popF]
theorem drop_min {c : Ch} (hv : c.valid = true) : dropV c ≤ allS c.rs.length ∧ okD c (dropV c) = true ∧ ∀ s, s ≤ allS c.rs.length → okD c s = true → pop (dropV c) < pop s ∨ (pop (dropV c) = pop s ∧ dropV c ≤ s) := by
  have hn := valid_num hv
  have hp2 := Nat.two_pow_pos c.rs.length
  have hall : okD c (allS c.rs.length) = true := by rw [← canD_ok, rest_all _ (by omega)]; exact canD_zero hv
  have hpl := popN_le c.rs.length (by omega) (allS c.rs.length) (by simp only [allS]; omega)
  obtain ⟨m, h1, h2, h3⟩ := least_nat (p := fun m => (List.range (allS c.rs.length + 1)).any fun s => isD c m s) (c.rs.length + 1) ⟨pop (allS c.rs.length), by omega, List.any_eq_true.2 ⟨allS c.rs.length, List.mem_range.2 (by omega), by simp only [isD]; rw [hall, Bool.and_true]; exact decide_eq_true trivial⟩⟩
  obtain ⟨s0, hs0, hd0⟩ := List.any_eq_true.1 h2
  obtain ⟨s, g1, g2, g3⟩ := least_nat (p := isD c m) (allS c.rs.length + 1) ⟨s0, List.mem_range.1 hs0, hd0⟩
  have h4 : ∀ i, i < m → ∀ x, x < allS c.rs.length + 1 → isD c i x = false := fun i hi x hx => by
    have := h3 i hi
    rw [List.any_eq_false] at this
    have := this x (List.mem_range.2 hx)
    simpa using this
  have hdrop := dropV_some h1 g1 h4 g3 g2
  have g2' := g2
  simp only [isD, Bool.and_eq_true, decide_eq_true_eq] at g2'
  rw [hdrop]
  refine ⟨by omega, g2'.2, fun x hx ho => ?_⟩
  by_cases e1 : pop x < m
  · have := h4 (pop x) e1 x (by omega)
    simp [isD, ho] at this
  · by_cases e2 : pop x = m
    · refine .inr ⟨by omega, ?_⟩
      by_cases e3 : x < s
      · have := g3 x e3
        simp only [isD, ho, Bool.and_true] at this
        exact absurd e2 (of_decide_eq_false this)
      · omega
    · exact .inl (by omega)
theorem drop_zero {c : Ch} (hv : c.valid = true) : dropV c = 0 ↔ canD c (allS c.rs.length) = true := by
  have hn := valid_num hv
  have h := drop_min hv
  have e := canD_ok c 0
  rw [rest_zero _ (by omega)] at e
  rw [e]
  constructor
  · intro h0; rw [← h0]; exact h.2.1
  · intro h0
    have := h.2.2 0 (by omega) h0
    have hp0 : pop 0 = 0 := by decide
    omega
theorem bitop_andNot_i64 (x y : Nat) (hx : x < 2 ^ 62) (hy : y < 2 ^ 62) : bitop .andNot .i64 (x : Int) (y : Int) = ((x &&& (2 ^ 64 - 1 - y) : Nat) : Int) := by
  have e1 : (BitVec.ofInt 64 (x : Int)).toNat = x := by rw [BitVec.toNat_ofInt]; omega
  have e2 : (BitVec.ofInt 64 (y : Int)).toNat = y := by rw [BitVec.toNat_ofInt]; omega
  have h : (x &&& (2 ^ 64 - 1 - y)) < 2 ^ 62 := Nat.lt_of_le_of_lt Nat.and_le_left hx
  show IntKind.i64.wrap ((BitVec.ofInt 64 (x : Int) &&& ~~~BitVec.ofInt 64 (y : Int)).toNat : Int) = _
  rw [BitVec.toNat_and, BitVec.toNat_not, e1, e2]
  exact IntWalk.i64_in ((x &&& (2 ^ 64 - 1 - y) : Nat) : Int) (by omega)
theorem bitop_and_i64 (x y : Nat) (hx : x < 2 ^ 62) (hy : y < 2 ^ 62) : bitop .and .i64 (x : Int) (y : Int) = ((x &&& y : Nat) : Int) := by
  have e1 : (BitVec.ofInt 64 (x : Int)).toNat = x := by rw [BitVec.toNat_ofInt]; omega
  have e2 : (BitVec.ofInt 64 (y : Int)).toNat = y := by rw [BitVec.toNat_ofInt]; omega
  have h : (x &&& y) < 2 ^ 62 := Nat.lt_of_le_of_lt Nat.and_le_left hx
  show IntKind.i64.wrap ((BitVec.ofInt 64 (x : Int) &&& BitVec.ofInt 64 (y : Int)).toNat : Int) = _
  rw [BitVec.toNat_and, e1, e2]
  exact IntWalk.i64_in ((x &&& y : Nat) : Int) (by omega)
end Go.Proofs.Ytagdholenfkeaaa

/- The document: small functions. -/
namespace Go.Proofs.Ytagdholenfkeaaa
open Go.Gh
set_option maxRecDepth 100000
set_option maxHeartbeats 4000000
structure kWa1 (c : Prop) : Prop where
  h : c := by (first | exact True.intro | (simp only [inI]; omega) | (simp [P.size, pr, pk, all_int, allOne_p, goods_p, allOne, goods, good, G.one, P.one, P.cells] <;> first | omega | assumption | simp_all))
theorem ent85 : Enters Try.prog 85 := Enters.mk Try.func85 (by kernel_rfl) rfl
theorem r_power (N : Nat) (hb : N ≤ 40) : PSpec Try.prog 85 [.int .i64 N] (.ok (.int .i64 (2 ^ N : Nat))) := by
  refine pspec_of Try.func85 (rfl : Try.f85.body = some _) rfl ?_
  intro E A C hN hL
  replace hN : C.N = 13 := hN
  simp only [Gh.num, List.map_cons, List.map_nil, Nat.reduceAdd]
  repeat refine gwp_seq ?_
  refine gwp_region ?_
  refine v0 (k := ?_)
  refine nil0 ?_
  refine cl [0] (k := ?_)
  repeat refine gwp_seq ?_
  refine gwp_region ?_
  refine v0 (k := ?_)
  refine nil0 ?_
  refine cl [0, 3] (k := ?_)
  repeat refine gwp_seq ?_
  refine gwp_region ?_
  refine v0 (k := ?_)
  refine nil0 ?_
  refine cl [0, 3, 4] (k := ?_)
  repeat refine gwp_seq ?_
  refine gwp_block ?_
  repeat refine gwp_seq ?_
  refine gc_loop (fun mz σ => ∃ k : Nat, (k ≤ N) ∧ mz = N - k ∧ σ = (sg [(0, .p (.int .i64 (N : Nat))), (3, .p (.int .i64 (2 ^ k : Nat))), (4, .p (.int .i64 (k : Nat)))] [] A [] : Sg E)) ?_ (fun mz σ hI => ?_)
  · refine lbeg [0, 3, 4] (hV := ?_)
    exact ⟨_, 0, by omega, rfl, rfl⟩
  obtain ⟨k, hk, hn, rfl⟩ := hI
  have hpos := Nat.two_pow_pos k
  have h62 : 2 ^ k ≤ 2 ^ 40 := Nat.pow_le_pow_right (by omega) (by omega)
  repeat refine gwp_seq ?_
  refine gwp_region ?_
  refine v0 (k := ?_)
  refine v0 (k := ?_)
  refine v0 (k := ?_)
  refine nil0 ?_
  repeat refine gwp_seq ?_
  refine cB (k1 := fun hb1 => ?_) (k0 := fun hb1 => ?_)
  · replace hb1 := hB.h {} hb1
    repeat refine gwp_seq ?_
    refine gwp_skip ?_
    refine cl [0, 3, 4] (k := ?_)
    repeat refine gwp_seq ?_
    refine gwp_block ?_
    repeat refine gwp_seq ?_
    refine gwp_region ?_
    refine v0 (k := ?_)
    refine v1 (hc := by (first | exact True.intro | (simp only [inI]; omega) | (simp [P.size] <;> omega))) (k := ?_)
    refine v0 (k := ?_)
    refine nil0 ?_
    refine cl [0, 3, 4] (k := ?_)
    repeat refine gwp_seq ?_
    refine gwp_region ?_
    refine v0 (k := ?_)
    refine v1 (hc := by (first | exact True.intro | (simp only [inI]; omega) | (simp [P.size] <;> omega))) (k := ?_)
    refine v0 (k := ?_)
    refine nil0 ?_
    refine lend [0, 3, 4] (h := ?_) (hV := ?_) (n' := N - (k + 1))
    · omega
    exact ⟨k + 1, by omega, rfl, sgE (by simp [Nat.pow_succ, Int.mul_comm]) rfl⟩
  · replace hb1 := hB.h {} hb1
    repeat refine gwp_seq ?_
    refine gwp_exit ?_
    repeat (first | refine gthen_exit ?_ | refine gnoGoto_exit ?_ | refine gblock_here ?_ | refine gblock_out rfl ?_)
    refine cl [3] (k := ?_)
    repeat refine gwp_seq ?_
    refine gwp_region ?_
    refine v0 (k := ?_)
    refine v0 (k := ?_)
    refine nil0 ?_
    repeat refine gwp_seq ?_
    refine gwp_ret ?_
    repeat (first | refine gthen_ret ?_ | refine gblock_ret ?_ | refine gnoGoto_ret ?_)
    refine fin_ret ?_
    refine fp (hR := ?_)
    have : k = N := by omega
    subst this
    rfl
theorem ent66 : Enters Try.prog 66 := Enters.mk Try.func66 (by kernel_rfl) rfl
theorem r_every (c : Ch) (hv : c.valid = true) : PSpec Try.prog 66 [.agg [.int .i64 c.pl, .int .i64 c.ps, .list (c.kn.map pk), .list (c.rs.map pr), .int .i64 c.ms]] (.ok (.int .i64 (allS c.rs.length : Nat))) := by
  refine pspec_of Try.func66 (rfl : Try.f66.body = some _) rfl ?_
  intro E A C hN hL
  replace hN : C.N = 8 := hN
  simp only [Gh.num, List.map_cons, List.map_nil, Nat.reduceAdd]
  have hn := valid_num hv
  have hpos := Nat.two_pow_pos c.rs.length
  have h62 : 2 ^ c.rs.length ≤ 2 ^ 12 := Nat.pow_le_pow_right (by omega) (by omega)
  repeat refine gwp_seq ?_
  refine gwp_region ?_
  refine n1 110 false (hc := kWa1.h {}) (k := ?_)
  refine v0 (k := ?_)
  refine nil0 ?_
  refine cl [1] (k := ?_)
  repeat refine gwp_seq ?_
  refine gwp_region ?_
  refine v0 (k := ?_)
  refine v0 (k := ?_)
  refine v0 (k := ?_)
  refine pc0 (spec := r_power c.rs.length (by omega)) (hent := ent85) (k := ?_)
  refine v1 (hc := kWa1.h {}) (k := ?_)
  refine v0 (k := ?_)
  refine nil0 ?_
  repeat refine gwp_seq ?_
  refine gwp_ret ?_
  repeat (first | refine gthen_ret ?_ | refine gblock_ret ?_ | refine gnoGoto_ret ?_)
  refine fin_ret ?_
  refine fp (hR := ?_)
  rw [← allS_i]
  rfl
theorem ent51 : Enters Try.prog 51 := Enters.mk Try.func51 (by kernel_rfl) rfl
theorem r_holder (c : Ch) (p : Int) (n : Nat) (hn : n ≤ c.rs.length) (hl : c.rs.length ≤ 12) : PSpec Try.prog 51 [.agg [.int .i64 c.pl, .int .i64 c.ps, .list (c.kn.map pk), .list (c.rs.map pr), .int .i64 c.ms], .int .i64 p, .int .i64 (n : Nat)] (.ok (.int .i64 (holN p c.rs n))) := by
  refine pspec_of Try.func51 (rfl : Try.f51.body = some _) rfl ?_
  intro E A C hN hL
  replace hN : C.N = 29 := hN
  simp only [Gh.num, List.map_cons, List.map_nil, Nat.reduceAdd]
  have hpk : ∀ k : Kw, pk k = P.agg [.int .i64 k.a, .int .i64 k.b] := fun _ => rfl
  have hpr : ∀ r : Rc, pr r = P.agg [.int .i64 r.p, .int .i64 r.f, .int .i64 r.t] := fun _ => rfl
  repeat refine gwp_seq ?_
  refine gwp_region ?_
  refine n1 130 false (hc := kWa1.h {}) (k := ?_)
  refine v0 (k := ?_)
  refine nil0 ?_
  refine cl [1, 2, 3] (k := ?_)
  repeat refine gwp_seq ?_
  refine gwp_region ?_
  refine v0 (k := ?_)
  refine nil0 ?_
  refine cl [1, 2, 3, 7] (k := ?_)
  repeat refine gwp_seq ?_
  refine gwp_region ?_
  refine v0 (k := ?_)
  refine nil0 ?_
  refine cl [1, 2, 3, 7, 8] (k := ?_)
  repeat refine gwp_seq ?_
  refine gwp_block ?_
  repeat refine gwp_seq ?_
  refine gc_loop (fun mz σ => ∃ k : Nat, (k ≤ n) ∧ mz = n - k ∧ σ = (sg [(1, .p (.int .i64 p)), (2, .p (.int .i64 (n : Nat))), (3, .ref 130 0), (7, .p (.int .i64 (holN p c.rs k))), (8, .p (.int .i64 (k : Nat)))] [(130, .cells [.p (.int .i64 c.pl), .p (.int .i64 c.ps), .p (.list (c.kn.map pk)), .p (.list (c.rs.map pr)), .p (.int .i64 c.ms)] 0)] A [] : Sg E)) ?_ (fun mz σ hI => ?_)
  · refine lbeg [1, 2, 3, 7, 8] (hV := ?_)
    exact ⟨_, 0, by omega, rfl, rfl⟩
  obtain ⟨k, hk, hnn, rfl⟩ := hI
  repeat refine gwp_seq ?_
  refine gwp_region ?_
  refine v0 (k := ?_)
  refine v0 (k := ?_)
  refine v0 (k := ?_)
  refine nil0 ?_
  repeat refine gwp_seq ?_
  refine cB (k1 := fun hb1 => ?_) (k0 := fun hb1 => ?_)
  · replace hb1 := hB.h {} hb1
    try rw [eqI] at hb1
    repeat refine gwp_seq ?_
    refine gwp_skip ?_
    refine cl [1, 2, 3, 7, 8] (k := ?_)
    repeat refine gwp_seq ?_
    refine gwp_block ?_
    repeat refine gwp_seq ?_
    obtain ⟨r, hr⟩ := getE (l := c.rs) (k := k) (by omega)
    have hkl := (List.getElem?_eq_some_iff.1 hr).1
    refine gwp_region ?_
    refine v0 (k := ?_)
    refine v0 (k := ?_)
    refine v0 (k := ?_)
    refine v1 (hc := kWa1.h {}) (k := ?_)
    refine v0 (k := ?_)
    refine v0 (k := ?_)
    refine v0 (k := ?_)
    refine v0 (k := ?_)
    refine nil0 ?_
    repeat refine gwp_seq ?_
    refine cB (k1 := fun hb2 => ?_) (k0 := fun hb2 => ?_)
    · replace hb2 := hB.h {} hb2
      try rw [eqI] at hb2
      repeat refine gwp_seq ?_
      refine gwp_region ?_
      refine v0 (k := ?_)
      refine v0 (k := ?_)
      refine v0 (k := ?_)
      refine v1 (hc := kWa1.h {}) (k := ?_)
      refine v0 (k := ?_)
      refine v0 (k := ?_)
      refine v0 (k := ?_)
      refine nil0 ?_
      refine cl [1, 2, 3, 7, 8] (k := ?_)
      repeat refine gwp_seq ?_
      refine gwp_region ?_
      refine v0 (k := ?_)
      refine v1 (hc := kWa1.h {}) (k := ?_)
      refine v0 (k := ?_)
      refine nil0 ?_
      refine lend [1, 2, 3, 7, 8] (h := ?_) (hV := ?_) (n' := n - (k + 1))
      · omega
      first
      | exact ⟨k + 1, by omega, rfl, sgE (by rw [holN, hr]; simp only []; rw [if_pos (by omega)]; rfl) rfl⟩
      | exact ⟨k + 1, by omega, rfl, sgE (by rw [holN, hr]; simp only []; rw [if_neg (by omega)]; rfl) rfl⟩
    · replace hb2 := hB.h {} hb2
      try rw [eqI] at hb2
      repeat refine gwp_seq ?_
      refine gwp_skip ?_
      refine cl [1, 2, 3, 7, 8] (k := ?_)
      repeat refine gwp_seq ?_
      refine gwp_region ?_
      refine v0 (k := ?_)
      refine v1 (hc := kWa1.h {}) (k := ?_)
      refine v0 (k := ?_)
      refine nil0 ?_
      refine lend [1, 2, 3, 7, 8] (h := ?_) (hV := ?_) (n' := n - (k + 1))
      · omega
      first
      | exact ⟨k + 1, by omega, rfl, sgE (by rw [holN, hr]; simp only []; rw [if_pos (by omega)]; rfl) rfl⟩
      | exact ⟨k + 1, by omega, rfl, sgE (by rw [holN, hr]; simp only []; rw [if_neg (by omega)]; rfl) rfl⟩
  · replace hb1 := hB.h {} hb1
    try rw [eqI] at hb1
    repeat refine gwp_seq ?_
    refine gwp_exit ?_
    repeat (first | refine gthen_exit ?_ | refine gnoGoto_exit ?_ | refine gblock_here ?_ | refine gblock_out rfl ?_)
    refine cl [7] (k := ?_)
    repeat refine gwp_seq ?_
    refine gwp_region ?_
    refine v0 (k := ?_)
    refine v0 (k := ?_)
    refine nil0 ?_
    repeat refine gwp_seq ?_
    refine gwp_ret ?_
    repeat (first | refine gthen_ret ?_ | refine gblock_ret ?_ | refine gnoGoto_ret ?_)
    refine fin_ret ?_
    refine fp (hR := ?_)
    obtain rfl : k = n := by omega
    rfl
end Go.Proofs.Ytagdholenfkeaaa

/- Sizes of sets. -/
namespace Go.Proofs.Ytagdholenfkeaaa
theorem popF_succ : ∀ (f q : Nat), q < 2 ^ f → popF (f + 1) q = popF f q
  | 0, q, h => by
    have : q = 0 := by simpa using h
    subst this; rfl
  | f + 1, q, h => by
    rw [popF, popF_succ f (q / 2) (by rw [Nat.pow_succ] at h; omega), popF]
theorem popF_le : ∀ (f q : Nat), popF f q ≤ f
  | 0, _ => Nat.le_refl _
  | f + 1, q => by
    have := popF_le f (q / 2)
    rw [popF]; omega
theorem pop_le (n : Nat) : pop n ≤ 64 := popF_le 64 n
theorem pop_half {m : Nat} (h : m < 4096) : pop m = m % 2 + pop (m / 2) := by
  show m % 2 + popF 63 (m / 2) = m % 2 + popF 64 (m / 2)
  rw [popF_succ 63 (m / 2) (by omega)]
theorem pop_zero : pop 0 = 0 := by decide
end Go.Proofs.Ytagdholenfkeaaa

/- The document: sets. -/
namespace Go.Proofs.Ytagdholenfkeaaa
open Go.Gh
set_option maxRecDepth 100000
set_option maxHeartbeats 4000000
structure kWc1 (c : Prop) : Prop where
  h : c := by (first | exact True.intro | decide | (simp only [inI]; omega) | (refine ⟨?_, ?_⟩ <;> (try simp only [inI]) <;> omega))
theorem ent90 : Enters Try.prog 90 := Enters.mk Try.func90 (by kernel_rfl) rfl
theorem r_has (set n : Nat) (hn : n ≤ 40) (hs : set ≤ 1048576) : PSpec Try.prog 90 [.int .i64 (set : Nat), .int .i64 (n : Nat)] (.ok (.bool (set.testBit n))) := by
  refine pspec_of Try.func90 (rfl : Try.f90.body = some _) rfl ?_
  intro E A C hN hL
  replace hN : C.N = 11 := hN
  simp only [Gh.num, List.map_cons, List.map_nil, Nat.reduceAdd]
  have hp := Nat.two_pow_pos n
  obtain ⟨q, hq⟩ : ∃ q, set / 2 ^ n = q := ⟨_, rfl⟩
  have e1 : (set : Int).tdiv ((2 ^ n : Nat) : Int) = (q : Int) := by rw [← hq]; exact (Int.ofNat_tdiv set (2 ^ n)).symm
  have e2 : (q : Int).tmod 2 = ((q % 2 : Nat) : Int) := (Int.ofNat_tmod q 2).symm
  have e3 : q ≤ set := hq ▸ Nat.div_le_self _ _
  repeat refine gwp_seq ?_
  refine gwp_region ?_
  refine v0 (k := ?_)
  refine nil0 ?_
  refine cl [0, 1] (k := ?_)
  repeat refine gwp_seq ?_
  refine gwp_region ?_
  refine v0 (k := ?_)
  refine v0 (k := ?_)
  refine pc0 (spec := r_power n hn) (hent := ent85) (k := ?_)
  refine v1 (hc := kWc1.h {}) (k := ?_)
  refine v1 (hc := kWc1.h {}) (k := ?_)
  refine v0 (k := ?_)
  refine v0 (k := ?_)
  refine nil0 ?_
  repeat refine gwp_seq ?_
  refine gwp_ret ?_
  repeat (first | refine gthen_ret ?_ | refine gblock_ret ?_ | refine gnoGoto_ret ?_)
  refine fin_ret ?_
  refine fp (hR := ?_)
  simp only [PRes.at, GRes.ok.injEq, G.p.injEq, P.bool.injEq, and_true]
  rw [Nat.testBit_eq_decide_div_mod_eq, hq]
  congr 1
  apply propext
  omega
theorem ent38 : Enters Try.prog 38 := Enters.mk Try.func38 (by kernel_rfl) rfl
theorem r_size (n : Nat) (h : n < 4096) : PSpec Try.prog 38 [.int .i64 (n : Nat)] (.ok (.int .i64 (pop n))) := by
  refine pspec_of Try.func38 (rfl : Try.f38.body = some _) rfl ?_
  intro E A C hN hL
  replace hN : C.N = 13 := hN
  simp only [Gh.num, List.map_cons, List.map_nil, Nat.reduceAdd]
  repeat refine gwp_seq ?_
  refine gwp_region ?_
  refine v0 (k := ?_)
  refine nil0 ?_
  refine cl [0] (k := ?_)
  repeat refine gwp_seq ?_
  refine gwp_region ?_
  refine v0 (k := ?_)
  refine nil0 ?_
  refine cl [0, 3] (k := ?_)
  repeat refine gwp_seq ?_
  refine gwp_block ?_
  repeat refine gwp_seq ?_
  refine gc_loop (fun mz σ => ∃ (c m : Nat), (c + pop m = pop n) ∧ (m ≤ n) ∧ mz = m ∧ σ = (sg [(0, .p (.int .i64 (m : Nat))), (3, .p (.int .i64 (c : Nat)))] [] A [] : Sg E)) ?_ (fun mz σ hI => ?_)
  · refine lbeg [0, 3] (hV := ?_)
    exact ⟨_, 0, n, by omega, by omega, rfl, rfl⟩
  obtain ⟨c, m, hc, hm, hnn, rfl⟩ := hI
  have hp1 := pop_half (m := m) (by omega)
  have hp2 := pop_le n
  have e1 : (m : Int).tmod 2 = ((m % 2 : Nat) : Int) := (Int.ofNat_tmod m 2).symm
  have e2 : (m : Int).tdiv 2 = ((m / 2 : Nat) : Int) := (Int.ofNat_tdiv m 2).symm
  repeat refine gwp_seq ?_
  refine gwp_region ?_
  refine v0 (k := ?_)
  refine v0 (k := ?_)
  refine nil0 ?_
  repeat refine gwp_seq ?_
  refine cB (k1 := fun hb1 => ?_) (k0 := fun hb1 => ?_)
  · replace hb1 := hB.h {} hb1
    repeat refine gwp_seq ?_
    refine gwp_skip ?_
    refine cl [0, 3] (k := ?_)
    repeat refine gwp_seq ?_
    refine gwp_block ?_
    repeat refine gwp_seq ?_
    refine gwp_region ?_
    refine v0 (k := ?_)
    refine v0 (k := ?_)
    refine v1 (hc := kWc1.h {}) (k := ?_)
    refine v1 (hc := kWc1.h {}) (k := ?_)
    refine v0 (k := ?_)
    refine nil0 ?_
    refine cl [0, 3] (k := ?_)
    repeat refine gwp_seq ?_
    refine gwp_region ?_
    refine v0 (k := ?_)
    refine v1 (hc := kWc1.h {}) (k := ?_)
    refine v0 (k := ?_)
    refine nil0 ?_
    repeat refine gblock_normal ?_
    refine lend [0, 3] (h := ?_) (hV := ?_) (n' := m / 2)
    · omega
    exact ⟨c + m % 2, m / 2, by omega, by omega, rfl, rfl⟩
  · replace hb1 := hB.h {} hb1
    repeat refine gwp_seq ?_
    refine gwp_exit ?_
    repeat (first | refine gthen_exit ?_ | refine gnoGoto_exit ?_ | refine gblock_here ?_ | refine gblock_out rfl ?_)
    refine cl [3] (k := ?_)
    repeat refine gwp_seq ?_
    refine gwp_region ?_
    refine v0 (k := ?_)
    refine v0 (k := ?_)
    refine nil0 ?_
    repeat refine gwp_seq ?_
    refine gwp_ret ?_
    repeat (first | refine gthen_ret ?_ | refine gblock_ret ?_ | refine gnoGoto_ret ?_)
    refine fin_ret ?_
    refine fp (hR := ?_)
    obtain rfl : m = 0 := by omega
    rw [← hc, pop_zero]
    rfl
end Go.Proofs.Ytagdholenfkeaaa

/- The statement ChainDrop: its parts. -/
namespace Go.Proofs.Ytagdholenfkeaaa
open Go.Gh
set_option maxRecDepth 100000
set_option maxHeartbeats 4000000
structure kLd1 (c : Prop) : Prop where
  h : c := by (first | exact True.intro | omega | (simp only [inI]; omega) | (simp [P.size, pr, pk, all_int, allOne_p, goods_p, allOne, goods, good, G.one, P.one, P.cells] <;> first | omega | assumption | simp_all))
theorem dec_or (p : Prop) : p ∨ ¬ p := Classical.em p
theorem bit_one2 {w l : Nat} (h : ((w / 2 ^ l % 2 : Nat) : Int) = 1) : w.testBit l = true := bit_one.1 (by omega)
theorem bit_zero2 {w l : Nat} (h : ¬ ((w / 2 ^ l % 2 : Nat) : Int) = 1) : w.testBit l = false := bit_zero.1 (by omega)
theorem one_rec (r : Rc) : (pr r).size = 3 := rfl
theorem pr_size (l : List Rc) : ∀ p ∈ l.map pr, p.size = 3 := fun p hp => by obtain ⟨r, _, rfl⟩ := List.mem_map.1 hp; rfl
theorem pr_ones (l : List Rc) : ∀ p ∈ (l.map pr).flatMap P.cells, p.one = true := fun p hp => by
  obtain ⟨q, hq, hp⟩ := List.mem_flatMap.1 hp
  obtain ⟨r, _, rfl⟩ := List.mem_map.1 hq
  simp only [pr, P.cells, List.mem_cons, List.not_mem_nil, or_false] at hp
  rcases hp with rfl | rfl | rfl <;> rfl
theorem and_r (w l : Nat) (hw : w < 2 ^ 62) : bitop .and .i64 ((w / 2 ^ l : Nat) : Int) 1 = ((w / 2 ^ l % 2 : Nat) : Int) := and1_i _ (Nat.lt_of_le_of_lt (Nat.div_le_self _ _) hw)
theorem ent37 : Enters Try.prog 37 := Enters.mk Try.func37 (by kernel_rfl) rfl
theorem l_part (c : Ch) (hl : c.rs.length ≤ 12) (set : Nat) (hs : set < 4096) : PSpec Try.prog 37 [.agg [.int .i64 c.pl, .int .i64 c.ps, .list (c.kn.map pk), .list (c.rs.map pr), .int .i64 c.ms], .int .i64 (set : Nat)] (.ok (.agg [.int .i64 c.pl, .int .i64 c.ps, .list (c.kn.map pk), .list ((c.part set).rs.map pr), .int .i64 c.ms])) := by
  refine pspec_of Try.func37 (rfl : Try.f37.body = some _) rfl ?_
  intro E A C hN hL
  replace hN : C.N = 31 := hN
  simp only [Gh.num, List.map_cons, List.map_nil, Nat.reduceAdd]
  have hpk : ∀ k : Kw, pk k = P.agg [.int .i64 k.a, .int .i64 k.b] := fun _ => rfl
  have hpr : ∀ r : Rc, pr r = P.agg [.int .i64 r.p, .int .i64 r.f, .int .i64 r.t] := fun _ => rfl
  repeat refine gwp_seq ?_
  refine gwp_region ?_
  refine n1 120 false (hc := kLd1.h {}) (k := ?_)
  refine n1 140 false (hc := kLd1.h {}) (k := ?_)
  refine nil0 ?_
  refine cl [1, 2, 4] (k := ?_)
  repeat refine gwp_seq ?_
  refine gwp_region ?_
  refine v0 (k := ?_)
  refine n1 150 false (hc := kLd1.h {}) (k := ?_)
  refine s1 (hc := kLd1.h {}) (k := ?_)
  refine nil0 ?_
  refine cl [1, 2, 4, 5] (k := ?_)
  repeat refine gwp_seq ?_
  refine gwp_region ?_
  refine v0 (k := ?_)
  refine s1 (hc := kLd1.h {}) (k := ?_)
  refine nil0 ?_
  refine cl [1, 2, 4, 5] (k := ?_)
  repeat refine gwp_seq ?_
  refine ad 150 3 2000 52 3 true (k := ?_)
  refine gwp_region ?_
  refine v0 (k := ?_)
  refine v0 (k := ?_)
  refine v0 (k := ?_)
  refine v0 (k := ?_)
  refine nil0 ?_
  refine cl [1, 4, 5, 11, 12, 13] (k := ?_)
  repeat refine gwp_seq ?_
  refine gwp_block ?_
  repeat refine gwp_seq ?_
  refine gc_loop (fun mz σ => ∃ k : Nat, (k ≤ c.rs.length) ∧ mz = c.rs.length - k ∧ σ = (sg [(1, .p (.int .i64 (set : Nat))), (4, .ref 140 0), (5, .ref 150 0), (11, .p (.list (c.rs.map pr))), (12, .p (.int .i64 (c.rs.length : Nat))), (13, .p (.int .i64 (k : Nat)))] [(140, .cells [.p (.int .i64 0), .p (.int .i64 0), .nils, .nils, .p (.int .i64 0)] 0), (150, .cells [.p (.int .i64 c.pl), .p (.int .i64 c.ps), .p (.list (c.kn.map pk)), .own 2000 (prs set c.rs k).length, .p (.int .i64 c.ms)] 0), (2000, .arr 52 3 ((prs set c.rs k).map pr) true)] A [] : Sg E)) ?_ (fun mz σ hI => ?_)
  · refine lbeg [1, 4, 5, 11, 12, 13] (hV := ?_)
    exact ⟨_, 0, by omega, rfl, rfl⟩
  obtain ⟨k, hk, hnn, rfl⟩ := hI
  repeat refine gwp_seq ?_
  refine gwp_region ?_
  refine v0 (k := ?_)
  refine nil0 ?_
  repeat refine gwp_seq ?_
  refine cB (k1 := fun hb1 => ?_) (k0 := fun hb1 => ?_)
  · replace hb1 := hB.h {} hb1
    try rw [eqI] at hb1
    repeat refine gwp_seq ?_
    refine gwp_skip ?_
    refine cl [1, 4, 5, 11, 12, 13] (k := ?_)
    repeat refine gwp_seq ?_
    refine gwp_block ?_
    repeat refine gwp_seq ?_
    obtain ⟨r, hr⟩ := getE (l := c.rs) (k := k) (by omega)
    have f20 := shr_b set k (by omega)
    have f21 := and_r set k (by omega)
    have hpl := prs_len (set := set) (rs := c.rs) k
    refine gwp_region ?_
    refine v0 (k := ?_)
    refine v1 (hc := kLd1.h {}) (k := ?_)
    refine v0 (k := ?_)
    refine n1 170 false (hc := kLd1.h {}) (k := ?_)
    refine v0 (k := ?_)
    refine s1 (hc := kLd1.h {}) (k := ?_)
    refine nil0 ?_
    refine cl [1, 4, 5, 6, 7, 11, 12, 13] (k := ?_)
    repeat refine gwp_seq ?_
    refine gwp_region ?_
    refine v0 (k := ?_)
    refine v0 (k := ?_)
    refine v1 (hc := kLd1.h {}) (k := ?_)
    refine v0 (k := ?_)
    refine v0 (k := ?_)
    refine nil0 ?_
    repeat refine gwp_seq ?_
    refine cB (k1 := fun hb2 => ?_) (k0 := fun hb2 => ?_)
    · replace hb2 := hB.h {} hb2
      try rw [eqI] at hb2
      repeat refine gwp_seq ?_
      refine gwp_region ?_
      refine v0 (k := ?_)
      refine v0 (k := ?_)
      refine v0 (k := ?_)
      refine n1 360 false (hc := kLd1.h {}) (k := ?_)
      refine n1 370 false (hc := kLd1.h {}) (k := ?_)
      refine v0 (k := ?_)
      refine s1 (hc := kLd1.h {}) (k := ?_)
      refine nil0 ?_
      refine cl [1, 4, 5, 11, 12, 13] (k := ?_)
      repeat refine gwp_seq ?_
      refine gwp_region ?_
      refine v1 (hc := kLd1.h {}) (k := ?_)
      refine v0 (k := ?_)
      refine nil0 ?_
      refine lend [1, 4, 5, 11, 12, 13] (h := ?_) (hV := ?_) (n' := c.rs.length - (k + 1))
      · omega
      first
      | exact ⟨k + 1, by omega, rfl, sgE rfl (by rw [prs_next hr (bit_one2 (by omega)), List.map_append, List.length_append]; rfl)⟩
      | exact ⟨k + 1, by omega, rfl, sgE rfl (by rw [prs_skip hr (bit_zero2 (by omega))])⟩
    · replace hb2 := hB.h {} hb2
      try rw [eqI] at hb2
      repeat refine gwp_seq ?_
      refine gwp_skip ?_
      refine cl [1, 4, 5, 11, 12, 13] (k := ?_)
      repeat refine gwp_seq ?_
      refine gwp_region ?_
      refine v1 (hc := kLd1.h {}) (k := ?_)
      refine v0 (k := ?_)
      refine nil0 ?_
      refine lend [1, 4, 5, 11, 12, 13] (h := ?_) (hV := ?_) (n' := c.rs.length - (k + 1))
      · omega
      first
      | exact ⟨k + 1, by omega, rfl, sgE rfl (by rw [prs_next hr (bit_one2 (by omega)), List.map_append, List.length_append]; rfl)⟩
      | exact ⟨k + 1, by omega, rfl, sgE rfl (by rw [prs_skip hr (bit_zero2 (by omega))])⟩
  · replace hb1 := hB.h {} hb1
    try rw [eqI] at hb1
    repeat refine gwp_seq ?_
    refine gwp_exit ?_
    repeat (first | refine gthen_exit ?_ | refine gnoGoto_exit ?_ | refine gblock_here ?_ | refine gblock_out rfl ?_)
    refine cl [4, 5] (k := ?_)
    repeat refine gwp_seq ?_
    refine gwp_region ?_
    refine v0 (k := ?_)
    refine s1 (hc := kLd1.h {}) (k := ?_)
    refine nil0 ?_
    repeat refine gwp_seq ?_
    refine gwp_ret ?_
    repeat (first | refine gthen_ret ?_ | refine gblock_ret ?_ | refine gnoGoto_ret ?_)
    refine fin_ret ?_
    refine fp (hR := ?_) (hd' := by first | exact True.intro | (simp; done) | simp)
    obtain rfl : k = c.rs.length := by omega
    rfl
theorem ent36 : Enters Try.prog 36 := Enters.mk Try.func36 (by kernel_rfl) rfl
theorem l_can {E : Env Try.prog} {A : E.α} (c : Ch) (hv : c.valid = true) (set : Nat) (hs : set < 4096) : Gh.Spec E 36 [.p (.int .i64 (set : Nat)), .ptr [.p (.int .i64 c.pl), .p (.int .i64 c.ps), .p (.list (c.kn.map pk)), .p (.list (c.rs.map pr)), .p (.int .i64 c.ms)]] (mkHp []) A (fun y => y = .ok (.p (.bool (canD c set))) (mkHp []) A) := by
  refine spec_of Try.func36 (rfl : Try.f36.body = some _) (Nat.le_of_ble_eq_true rfl) (fun id h => ?_) (fun j id h => ?_) ?_
  · exact wf1x h
  · exact wf2x h
  intro C hN hL
  replace hN : C.N = 21 := hN
  simp only [Gh.num, List.map_cons, List.map_nil, Nat.reduceAdd]
  have hn := valid_num hv
  have hpv := part_valid hv set
  have hpe := part_least c set
  repeat refine gwp_seq ?_
  refine gwp_region ?_
  refine v0 (k := ?_)
  refine nil0 ?_
  refine cl [0, 1] (k := ?_)
  repeat refine gwp_seq ?_
  rcases dec_or (leastC (c.part set) < 1048576) with hlt | hlt
  · repeat refine gwp_seq ?_
    refine gwp_region ?_
    refine v0 (k := ?_)
    refine v0 (k := ?_)
    refine pc0 (spec := l_part c (by omega) set hs) (hent := ent37) (k := ?_)
    refine pc0 (spec := w_least_t (c.part set) hpv hlt) (hent := ent21) (k := ?_)
    refine v0 (k := ?_)
    refine v0 (k := ?_)
    refine v0 (k := ?_)
    refine v0 (k := ?_)
    refine v0 (k := ?_)
    refine nil0 ?_
    refine cl [1, 4, 5] (k := ?_)
    repeat refine gwp_seq ?_
    refine gwp_region ?_
    refine v0 (k := ?_)
    refine v0 (k := ?_)
    refine rb 14 true (h := by (first | rfl | decide)) (k := ?_)
    refine v0 (k := ?_)
    refine w0 (k := ?_)
    refine w0 (k := ?_)
    refine w0 (k := ?_)
    refine w0 (k := ?_)
    refine v0 (k := ?_)
    refine v0 (k := ?_)
    refine nil0 ?_
    repeat refine gwp_seq ?_
    refine gwp_ret ?_
    repeat (first | refine gthen_ret ?_ | refine gblock_ret ?_ | refine gnoGoto_ret ?_)
    refine fin_ret ?_
    refine fp (hR := ?_)
    first
    | rfl
    | (rw [canD, ← hpe]; rfl)
    | (rw [canD]; rfl)
    | (rw [canD, decide_eq_false (by omega)])
  · repeat refine gwp_seq ?_
    refine gwp_region ?_
    refine v0 (k := ?_)
    refine v0 (k := ?_)
    refine pc0 (spec := l_part c (by omega) set hs) (hent := ent37) (k := ?_)
    refine pc0 (spec := w_least_c (c.part set) hpv hlt) (hent := ent21) (k := ?_)
    refine v0 (k := ?_)
    refine v0 (k := ?_)
    refine v0 (k := ?_)
    refine v0 (k := ?_)
    refine v0 (k := ?_)
    refine nil0 ?_
    refine cl [1, 4, 5] (k := ?_)
    repeat refine gwp_seq ?_
    refine gwp_region ?_
    refine v0 (k := ?_)
    refine v0 (k := ?_)
    refine rb 14 false (h := by (first | rfl | decide)) (k := ?_)
    refine v0 (k := ?_)
    refine x0 (k := ?_)
    refine x0 (k := ?_)
    refine x0 (k := ?_)
    refine x0 (k := ?_)
    refine v0 (k := ?_)
    refine v0 (k := ?_)
    refine nil0 ?_
    repeat refine gwp_seq ?_
    refine gwp_ret ?_
    repeat (first | refine gthen_ret ?_ | refine gblock_ret ?_ | refine gnoGoto_ret ?_)
    refine fin_ret ?_
    refine fp (hR := ?_)
    first
    | rfl
    | (rw [canD, ← hpe]; rfl)
    | (rw [canD]; rfl)
    | (rw [canD, decide_eq_false (by omega)])
end Go.Proofs.Ytagdholenfkeaaa

/- The statement ChainDrop. -/
namespace Go.Proofs.Ytagdholenfkeaaa
open Go.Gh
set_option maxRecDepth 100000
set_option maxHeartbeats 4000000
structure kLe1 (c : Prop) : Prop where
  h : c := by (first | exact True.intro | omega | (simp only [inI]; omega) | (simp [P.size, pr, pk, all_int, allOne_p, goods_p, allOne, goods, good, G.one, P.one, P.cells] <;> first | omega | assumption | simp_all))
theorem drop_eqb {c : Ch} (hv : c.valid = true) : decide (((dropV c : Nat) : Int) = 0) = canD c (allS c.rs.length) := by
  have h := drop_zero hv
  cases e : canD c (allS c.rs.length) with
  | true => exact decide_eq_true (by have := h.2 e; omega)
  | false =>
    refine decide_eq_false fun h0 => ?_
    have := h.1 (by omega)
    rw [e] at this; cases this
theorem neq_same (b : Bool) : (!(b == b)) = false := by cases b <;> rfl
theorem three_ways (c : Ch) {d n s : Nat} (h : ∀ s, s ≤ n → okD c s = true → pop d < pop s ∨ (pop d = pop s ∧ d ≤ s)) (hs : s ≤ n) : canD c (restS c.rs.length s) = false ∨ (canD c (restS c.rs.length s) = true ∧ (pop d : Int) < pop s) ∨ (canD c (restS c.rs.length s) = true ∧ ((pop s : Nat) : Int) ≤ pop d ∧ (pop d : Int) ≤ (pop s : Nat) ∧ d ≤ s) := by
  rw [canD_ok]
  cases e : okD c s with
  | false => exact .inl rfl
  | true =>
    rcases h s hs e with h | ⟨h1, h2⟩
    · exact .inr (.inl ⟨rfl, by omega⟩)
    · exact .inr (.inr ⟨rfl, by omega, by omega, h2⟩)
theorem drop_inv (c : Ch) (h1 : c.kn.length ≤ 1048576) (h2 : c.rs.length ≤ 1048576) (hv : c.valid = false) : PSpec Try.prog 30 [.agg [.int .i64 c.pl, .int .i64 c.ps, .list (c.kn.map pk), .list (c.rs.map pr), .int .i64 c.ms]] (.ok (.tuple [.int .i64 0, .int .i64 1])) := fun E A => p_drop_f c h1 h2 hv
theorem ent10 : Enters Try.prog 10 := Enters.mk Try.func10 (by kernel_rfl) rfl
theorem l_drop (c : Ch) (b : Nat) (hb : b ≤ 65535) : PSpec Try.prog 10 [.agg [.int .i64 c.pl, .int .i64 c.ps, .list (c.kn.map pk), .list (c.rs.map pr), .int .i64 c.ms], .int .u16 (b : Nat)] (.ok (.bool true)) := by
  refine pspec_of Try.func10 (rfl : Try.f10.body = some _) rfl ?_
  intro E A C hN hL
  replace hN : C.N = 107 := hN
  simp only [Gh.num, List.map_cons, List.map_nil, Nat.reduceAdd]
  have hdt : ∀ (i : Decidable True), @decide True i = true := fun i => decide_eq_true trivial
  have hdf : ∀ (i : Decidable False), @decide False i = false := fun i => decide_eq_false id
  have hbt : (true == true) = true := rfl
  have hbf : (false == false) = true := rfl
  have htf : (true == false) = false := rfl
  have hft : (false == true) = false := rfl
  repeat refine gwp_seq ?_
  refine gwp_region ?_
  refine n1 120 false (hc := kLe1.h {}) (k := ?_)
  refine v0 (k := ?_)
  refine nil0 ?_
  refine cl [1, 2] (k := ?_)
  repeat refine gwp_seq ?_
  refine gwp_region ?_
  refine v0 (k := ?_)
  refine pc0 (spec := l_great c 12) (hent := ent13) (k := ?_)
  refine nil0 ?_
  repeat refine gwp_seq ?_
  refine cB (k1 := fun hb1 => ?_) (k0 := fun hb1 => ?_)
  · replace hb1 := hB.h {} hb1
    try rw [eqI] at hb1
    repeat refine gwp_seq ?_
    refine gwp_region ?_
    refine pc0 (spec := l_alive) (hent := ent14) (k := ?_)
    refine v0 (k := ?_)
    refine nil0 ?_
    repeat refine gwp_seq ?_
    refine gwp_ret ?_
    repeat (first | refine gthen_ret ?_ | refine gblock_ret ?_ | refine gnoGoto_ret ?_)
    refine fin_ret ?_
    refine fp (hR := ?_)
    rfl
  · replace hb1 := hB.h {} hb1
    try rw [eqI] at hb1
    repeat refine gwp_seq ?_
    refine gwp_skip ?_
    refine cl [1, 2] (k := ?_)
    repeat refine gwp_seq ?_
    obtain ⟨hk6, hr6⟩ := great_len (by assumption)
    rcases hv : c.valid with _ | _
    · repeat refine gwp_seq ?_
      refine gwp_region ?_
      refine v0 (k := ?_)
      refine pc0 (spec := drop_inv c (by omega) (by omega) hv) (hent := ent30) (k := ?_)
      refine v0 (k := ?_)
      refine v0 (k := ?_)
      refine v0 (k := ?_)
      refine v0 (k := ?_)
      refine v0 (k := ?_)
      refine nil0 ?_
      refine cl [1, 2, 5, 6] (k := ?_)
      repeat refine gwp_seq ?_
      refine gwp_region ?_
      refine v0 (k := ?_)
      refine v0 (k := ?_)
      refine rb 21 true (h := by (first | with_reducible rfl | exact decide_eq_true (by omega) | rfl | decide)) (k := ?_)
      refine v0 (k := ?_)
      refine x0 (k := ?_)
      refine x0 (k := ?_)
      refine x0 (k := ?_)
      refine v0 (k := ?_)
      refine nil0 ?_
      repeat refine gwp_seq ?_
      refine cT (k := ?_)
      repeat refine gwp_seq ?_
      refine gwp_region ?_
      refine v0 (k := ?_)
      refine v0 (k := ?_)
      refine rb 28 true (h := by (first | with_reducible rfl | exact decide_eq_true (by omega) | rfl | decide)) (k := ?_)
      refine v0 (k := ?_)
      refine w0 (k := ?_)
      refine w0 (k := ?_)
      refine rb 31 true (h := by (first | with_reducible rfl | exact decide_eq_true (by omega) | rfl | decide)) (k := ?_)
      refine v0 (k := ?_)
      refine v0 (k := ?_)
      refine w0 (k := ?_)
      refine pcw (spec := r_chain c (by omega) (by omega)) (hent := ent35) (k := ?_)
      refine rb 35 false (h := by (first | exact hv | rfl)) (k := ?_)
      refine w0 (k := ?_)
      refine rb 36 true (h := by (first | with_reducible rfl | exact decide_eq_true (by omega) | rfl | decide)) (k := ?_)
      refine v0 (k := ?_)
      refine v0 (k := ?_)
      refine pcw (spec := l_alive) (hent := ent14) (k := ?_)
      refine v0 (k := ?_)
      refine v0 (k := ?_)
      refine nil0 ?_
      repeat refine gwp_seq ?_
      refine gwp_ret ?_
      repeat (first | refine gthen_ret ?_ | refine gblock_ret ?_ | refine gnoGoto_ret ?_)
      refine fin_ret ?_
      refine fp (hR := ?_)
      rfl
    · have hn := valid_num hv
      have hdm := drop_min hv
      obtain ⟨hd1, hd2, hd3⟩ := hdm
      have hal := allS_lt (n := c.rs.length) (by omega)
      have hrl := restS_lt (n := c.rs.length) (s := dropV c) (by omega)
      have f44 := shl_b c.rs.length (by omega)
      have f45 := allS_i c.rs.length
      have f48 : decide ((((dropV c) : Nat) : Int) < 0) = false := decide_eq_false (by omega)
      have f52 : decide ((((allS c.rs.length) : Nat) : Int) < (((dropV c) : Nat) : Int)) = false := decide_eq_false (by omega)
      have f58 : bitop .andNot .i64 (((allS c.rs.length) : Nat) : Int) (((dropV c) : Nat) : Int) = ((restS c.rs.length (dropV c) : Nat) : Int) := bitop_andNot_i64 _ _ (by omega) (by omega)
      obtain ⟨s, hs⟩ : ∃ s, b &&& (allS c.rs.length) = s := ⟨_, rfl⟩
      have hsl : s ≤ (allS c.rs.length) := hs ▸ Nat.and_le_right
      have f78 := bitop_and_i64 b (allS c.rs.length) (by omega) (by omega)
      rw [hs] at f78
      have hrs := restS_lt (n := c.rs.length) (s := s) (by omega)
      have f86 : bitop .andNot .i64 (((allS c.rs.length) : Nat) : Int) ((s : Nat) : Int) = ((restS c.rs.length s : Nat) : Int) := bitop_andNot_i64 _ _ (by omega) (by omega)
      clear hs
      repeat refine gwp_seq ?_
      refine gwp_region ?_
      refine v0 (k := ?_)
      refine pc0 (spec := w_drop c hv) (hent := ent30) (k := ?_)
      refine v0 (k := ?_)
      refine v0 (k := ?_)
      refine v0 (k := ?_)
      refine v0 (k := ?_)
      refine v0 (k := ?_)
      refine nil0 ?_
      refine cl [1, 2, 5, 6] (k := ?_)
      repeat refine gwp_seq ?_
      refine gwp_region ?_
      refine v0 (k := ?_)
      refine v0 (k := ?_)
      refine rb 21 false (h := by (first | with_reducible rfl | exact decide_eq_false (by omega) | rfl | decide)) (k := ?_)
      refine v0 (k := ?_)
      refine w0 (k := ?_)
      refine pcw (spec := r_chain c (by omega) (by omega)) (hent := ent35) (k := ?_)
      refine rb 24 true (h := by (exact hv)) (k := ?_)
      refine w0 (k := ?_)
      refine rb 25 false (h := by (first | with_reducible rfl | exact decide_eq_false (by omega) | rfl | decide)) (k := ?_)
      refine v0 (k := ?_)
      refine nil0 ?_
      repeat refine gwp_seq ?_
      refine cF (k := ?_)
      repeat refine gwp_seq ?_
      refine gwp_skip ?_
      refine cl [1, 2, 5] (k := ?_)
      repeat refine gwp_seq ?_
      refine gwp_region ?_
      refine v0 (k := ?_)
      refine v0 (k := ?_)
      refine v0 (k := ?_)
      refine v1 (hc := kLe1.h {}) (k := ?_)
      refine v1 (hc := kLe1.h {}) (k := ?_)
      refine v0 (k := ?_)
      refine nil0 ?_
      refine cl [1, 2, 5, 7] (k := ?_)
      repeat refine gwp_seq ?_
      refine fz 120 5 [.k, .k, .k, .k, .k] (k := ?_)
      refine cv 2 (.n [.k, .k, .k, .k, .k]) (k := ?_)
      refine gwp_region ?_
      refine v0 (k := ?_)
      refine v0 (k := ?_)
      refine nil0 ?_
      refine cl [1, 5, 7, 8] (k := ?_)
      repeat refine gwp_seq ?_
      refine gwp_region ?_
      refine v0 (k := ?_)
      refine v0 (k := ?_)
      refine rb 48 false (h := by (first | with_reducible rfl | exact decide_eq_false (by omega) | rfl | decide)) (k := ?_)
      refine v0 (k := ?_)
      refine w0 (k := ?_)
      refine w0 (k := ?_)
      refine w0 (k := ?_)
      refine rb 52 false (h := by (first | with_reducible rfl | exact decide_eq_false (by omega) | rfl | decide)) (k := ?_)
      refine v0 (k := ?_)
      refine v0 (k := ?_)
      refine w0 (k := ?_)
      refine w0 (k := ?_)
      refine w0 (k := ?_)
      refine w0 (k := ?_)
      refine ocw [] [] [0, 0] none (spec := l_can c hv (restS c.rs.length (dropV c)) hrl) (hent := ent36) (k := ?_)
      refine rb 59 true (h := by (exact hd2)) (k := ?_)
      refine w0 (k := ?_)
      refine rb 60 false (h := by (first | with_reducible rfl | exact decide_eq_false (by omega) | rfl | decide)) (k := ?_)
      refine v0 (k := ?_)
      refine v0 (k := ?_)
      refine w0 (k := ?_)
      refine w0 (k := ?_)
      refine w0 (k := ?_)
      refine w0 (k := ?_)
      refine ocw [] [] [0, 0] none (spec := l_can c hv (allS c.rs.length) hal) (hent := ent36) (k := ?_)
      refine w0 (k := ?_)
      refine rb 68 false (h := by (first | (rw [drop_eqb hv]; exact neq_same _) | exact neq_same _)) (k := ?_)
      refine v0 (k := ?_)
      refine v0 (k := ?_)
      refine w0 (k := ?_)
      refine ocw [] [] [0, 0] none (spec := l_can c hv 0 (by omega)) (hent := ent36) (k := ?_)
      refine rb 72 true (h := by (exact canD_zero hv)) (k := ?_)
      refine w0 (k := ?_)
      refine rb 73 false (h := by (first | with_reducible rfl | exact decide_eq_false (by omega) | rfl | decide)) (k := ?_)
      refine v0 (k := ?_)
      refine nil0 ?_
      repeat refine gwp_seq ?_
      refine cF (k := ?_)
      repeat refine gwp_seq ?_
      refine gwp_skip ?_
      refine cl [1, 5, 7, 8] (k := ?_)
      repeat refine gwp_seq ?_
      refine gwp_region ?_
      refine v0 (k := ?_)
      refine v1 (hc := kLe1.h {}) (k := ?_)
      refine v0 (k := ?_)
      refine v0 (k := ?_)
      refine v0 (k := ?_)
      refine nil0 ?_
      refine cl [5, 7, 8, 9] (k := ?_)
      repeat refine gwp_seq ?_
      refine gwp_region ?_
      refine v0 (k := ?_)
      refine pc0 (spec := r_size s (by omega)) (hent := ent38) (k := ?_)
      refine v0 (k := ?_)
      refine pc0 (spec := r_size (dropV c) (by omega)) (hent := ent38) (k := ?_)
      refine v0 (k := ?_)
      refine v0 (k := ?_)
      refine nil0 ?_
      refine cl [5, 7, 8, 9, 10, 11] (k := ?_)
      repeat refine gwp_seq ?_
      rcases three_ways c hd3 hsl with ho | ⟨ho, hm⟩ | ⟨ho, hm, hm2, hle⟩
      · repeat refine gwp_seq ?_
        refine gwp_region ?_
        refine v0 (k := ?_)
        refine v0 (k := ?_)
        refine v0 (k := ?_)
        refine v0 (k := ?_)
        refine oc0 [] [] [0, 0] none (spec := l_can c hv (restS c.rs.length s) hrs) (hent := ent36) (k := ?_)
        refine rb 87 false (h := by (exact ho)) (k := ?_)
        refine v0 (k := ?_)
        refine rb 88 true (h := by (first | with_reducible rfl | exact decide_eq_true (by omega) | rfl | decide)) (k := ?_)
        refine v0 (k := ?_)
        refine x0 (k := ?_)
        refine x0 (k := ?_)
        refine x0 (k := ?_)
        refine v0 (k := ?_)
        refine v0 (k := ?_)
        refine x0 (k := ?_)
        refine x0 (k := ?_)
        refine x0 (k := ?_)
        refine x0 (k := ?_)
        refine x1 (k := ?_)
        refine x1 (k := ?_)
        refine x1 (k := ?_)
        refine x0 (k := ?_)
        refine v0 (k := ?_)
        refine v0 (k := ?_)
        refine pcw (spec := l_alive) (hent := ent14) (k := ?_)
        refine v0 (k := ?_)
        refine v0 (k := ?_)
        refine nil0 ?_
        repeat refine gwp_seq ?_
        refine gwp_ret ?_
        repeat (first | refine gthen_ret ?_ | refine gblock_ret ?_ | refine gnoGoto_ret ?_)
        refine fin_ret ?_
        refine fp (hR := ?_)
        rfl
      · repeat refine gwp_seq ?_
        refine gwp_region ?_
        refine v0 (k := ?_)
        refine v0 (k := ?_)
        refine v0 (k := ?_)
        refine v0 (k := ?_)
        refine oc0 [] [] [0, 0] none (spec := l_can c hv (restS c.rs.length s) hrs) (hent := ent36) (k := ?_)
        refine rb 87 true (h := by (exact ho)) (k := ?_)
        refine v0 (k := ?_)
        refine rb 88 false (h := by (first | with_reducible rfl | exact decide_eq_false (by omega) | rfl | decide)) (k := ?_)
        refine v0 (k := ?_)
        refine w0 (k := ?_)
        refine w0 (k := ?_)
        refine w0 (k := ?_)
        refine rb 92 true (h := by (first | with_reducible rfl | exact decide_eq_true (by omega) | rfl | decide)) (k := ?_)
        refine v0 (k := ?_)
        refine v0 (k := ?_)
        refine x0 (k := ?_)
        refine x0 (k := ?_)
        refine x0 (k := ?_)
        refine x0 (k := ?_)
        refine x1 (k := ?_)
        refine x1 (k := ?_)
        refine x1 (k := ?_)
        refine x0 (k := ?_)
        refine v0 (k := ?_)
        refine v0 (k := ?_)
        refine pcw (spec := l_alive) (hent := ent14) (k := ?_)
        refine v0 (k := ?_)
        refine v0 (k := ?_)
        refine nil0 ?_
        repeat refine gwp_seq ?_
        refine gwp_ret ?_
        repeat (first | refine gthen_ret ?_ | refine gblock_ret ?_ | refine gnoGoto_ret ?_)
        refine fin_ret ?_
        refine fp (hR := ?_)
        rfl
      · repeat refine gwp_seq ?_
        refine gwp_region ?_
        refine v0 (k := ?_)
        refine v0 (k := ?_)
        refine v0 (k := ?_)
        refine v0 (k := ?_)
        refine oc0 [] [] [0, 0] none (spec := l_can c hv (restS c.rs.length s) hrs) (hent := ent36) (k := ?_)
        refine rb 87 true (h := by (exact ho)) (k := ?_)
        refine v0 (k := ?_)
        refine rb 88 false (h := by (first | with_reducible rfl | exact decide_eq_false (by omega) | rfl | decide)) (k := ?_)
        refine v0 (k := ?_)
        refine w0 (k := ?_)
        refine w0 (k := ?_)
        refine w0 (k := ?_)
        refine rb 92 false (h := by (first | with_reducible rfl | exact decide_eq_false (by omega) | rfl | decide)) (k := ?_)
        refine v0 (k := ?_)
        refine v0 (k := ?_)
        refine w0 (k := ?_)
        refine w0 (k := ?_)
        refine w0 (k := ?_)
        refine rb 97 true (h := by (first | with_reducible rfl | exact decide_eq_true (by omega) | rfl | decide)) (k := ?_)
        refine w0 (k := ?_)
        refine w0 (k := ?_)
        refine w0 (k := ?_)
        refine w0 (k := ?_)
        refine rb 101 true (h := by (first | with_reducible rfl | exact decide_eq_true (by omega) | rfl | decide)) (k := ?_)
        refine w0 (k := ?_)
        refine v0 (k := ?_)
        refine v0 (k := ?_)
        refine pcw (spec := l_alive) (hent := ent14) (k := ?_)
        refine v0 (k := ?_)
        refine v0 (k := ?_)
        refine nil0 ?_
        repeat refine gwp_seq ?_
        refine gwp_ret ?_
        repeat (first | refine gthen_ret ?_ | refine gblock_ret ?_ | refine gnoGoto_ret ?_)
        refine fin_ret ?_
        refine fp (hR := ?_)
        rfl
end Go.Proofs.Ytagdholenfkeaaa

/- The statement ChainDrop, for every input: the law returns true, and its arguments read as they did.  -/
namespace Go.Proofs.Ytagdholenfkeaaa
open Go.Gh Go.ChangeShapes Go.WideShapes Go.ChangeAt Go.RowKit
set_option maxRecDepth 100000
theorem aj_drop : ∀ ps, FitAs [(true, chSS), (false, [.int .u16])] ps → PSpec Try.prog 10 ps (.ok (.bool true)) := fun ps h => by
  simp only [FitAs] at h
  obtain ⟨_, _, rfl, q0, _, _, rfl, q1, rfl⟩ := h
  obtain ⟨c, rfl, hc1, hc2, hc3, hc4, hc5, hc6, hc7⟩ := ch_of q0
  obtain ⟨b, rfl, hb⟩ := u16_of q1
  exact l_drop c b hb
theorem drop_lifted (os : Os) (started : os.Started) (H : Type) (enc : TypeId × Value → H) :
    ReturnsInHanded {} Try.checked os 10 .any (Rows.chainDropSpec.pre6 enc Try.prog Try.f10 Rows.chainDropRow.domain false) (Rows.chainDropSpec.post enc Try.prog Try.f10 false true false false) := by
  refine returnsInHanded_of_change (C := Try.checked) own started (by kernel_rfl) Try.func10
    (ChangeSpec.witness6 (enc := enc) (C := Try.checked) false ⟨#[], #[.agg #[.int .i64 0, .int .i64 0, .slice none 0 0, .slice none 0 0, .int .i64 0], .int .u16 0], []⟩ 8 (by kernel_rfl) (by kernel_rfl) (by kernel_rfl) (by kernel_rfl)) ?_
  intro W base args ds gs before hval hW _ _
  exact law_post (n := 9) (ss := [(true, chSS), (false, [.int .u16])]) (b := 4) laidOut (by kernel_rfl) (by kernel_rfl) (by kernel_rfl) (by kernel_rfl) rfl
    (fun ds hd => by
      have hd' : ds.length = 2 := hd
      match ds, hd' with
      | [a, b], _ => rfl) aj_drop hval hW
theorem drop_holds : Rows.ChainDropSaid :=
  OpenClaim.holds_of_wide 10 Try.f10 rfl rfl rfl rfl rfl rfl rfl ⟨rfl, rfl, rfl, rfl, rfl⟩ rfl rfl rfl rfl rfl (by kernel_rfl) Try.func10 (by kernel_rfl)
    (of_decide_eq_true (by kernel_rfl)) (by unfold Func.isWrapper; first | (rw [if_pos (by decide +kernel)]; kernel_rfl) | (rw [if_neg (by decide +kernel)]; exact ⟨rfl, rfl⟩))
    (fun os started H enc _ => drop_lifted os started H enc)
end Go.Proofs.Ytagdholenfkeaaa
