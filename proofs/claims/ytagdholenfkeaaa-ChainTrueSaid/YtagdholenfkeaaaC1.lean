/- The statement ChainTrue: the call returns true for every input, and its arguments read as before; no condition. -/
import Derived.Test.YtagdholenfkeaaaB3
set_option linter.unusedVariables false
set_option linter.unusedSimpArgs false
/- Sets by bits: what the program's sets have. -/
namespace Go.Proofs.Ytagdholenfkeaaa
open Go.Gh
theorem shr_i (w l : Nat) (hl : l ≤ 60) : (w : Int).fdiv (2 ^ min l 64) = ((w / 2 ^ l : Nat) : Int) := by
  rw [Nat.min_eq_left (by omega)]
  have : ((2 : Int) ^ l) = ((2 ^ l : Nat) : Int) := by simp
  rw [this, Int.ofNat_fdiv]
theorem and1_i (v : Nat) (h : v < 2 ^ 62) : bitop .and .i64 (v : Int) 1 = ((v % 2 : Nat) : Int) := by
  have e1 : (BitVec.ofInt 64 (v : Int)).toNat = v := by rw [BitVec.toNat_ofInt]; omega
  show IntKind.i64.wrap ((BitVec.ofInt 64 (v : Int) &&& BitVec.ofInt 64 1).toNat : Int) = _
  rw [BitVec.toNat_and, e1, show (BitVec.ofInt 64 1).toNat = 1 from rfl, Nat.and_one_is_mod]
  exact IntWalk.i64_in ((v % 2 : Nat) : Int) (by omega)
theorem bit_one {w l : Nat} : w / 2 ^ l % 2 = 1 ↔ w.testBit l = true := by
  rw [Nat.testBit_eq_decide_div_mod_eq, decide_eq_true_iff]
theorem bit_zero {w l : Nat} : w / 2 ^ l % 2 = 0 ↔ w.testBit l = false := by
  rw [Nat.testBit_eq_decide_div_mod_eq, decide_eq_false_iff_not]; omega
theorem or_bit {s k i : Nat} : (s ||| 2 ^ k).testBit i = (s.testBit i || decide (k = i)) := by
  rw [Nat.testBit_or, Nat.testBit_two_pow]
theorem lt_bit {s k i : Nat} (h : s < 2 ^ k) (hi : k ≤ i) : s.testBit i = false := Nat.testBit_lt_two_pow (Nat.lt_of_lt_of_le h (Nat.pow_le_pow_right (by omega) hi))
theorem or_lt2 {s k : Nat} (h : s < 2 ^ k) : s ||| 2 ^ k < 2 ^ (k + 1) := Nat.or_lt_two_pow (Nat.lt_trans h (Nat.pow_lt_pow_right (by omega) (by omega))) (Nat.pow_lt_pow_right (by omega) (by omega))
theorem setN_lt2 (q : Nat → Bool) : ∀ k, setN q k < 2 ^ k
  | 0 => by simp [setN]
  | k + 1 => by
    have := setN_lt2 q k
    simp only [setN]; split
    · exact or_lt2 this
    · exact Nat.lt_trans this (Nat.pow_lt_pow_right (by omega) (by omega))
theorem setN_bit (q : Nat → Bool) : ∀ k i, (setN q k).testBit i = (decide (i < k) && q i)
  | 0, i => by simp [setN]
  | k + 1, i => by
    have h := setN_bit q k i
    have hl := lt_bit (setN_lt2 q k) (Nat.le_refl k)
    simp only [setN]
    by_cases hk : q k = true
    · rw [if_pos hk, or_bit, h]
      by_cases e : k = i
      · subst e; simp [hk]
      · rw [decide_eq_false e, Bool.or_false]
        congr 1
        exact decide_eq_decide.2 (by omega)
    · rw [if_neg hk, h]
      by_cases e : k = i
      · subst e; simp [show q k = false by simpa using hk]
      · congr 1
        exact decide_eq_decide.2 (by omega)
theorem whereN_N (f : Mx) (h : Nat) (more : Int) : ∀ k, whereN f h more k = setN (fun u => decide (f h u ≤ more)) k
  | 0 => rfl
  | k + 1 => by
    rw [whereN, setN, ← whereN_N f h more k]
    by_cases hc : f h k ≤ more
    · rw [if_pos hc, if_pos (decide_eq_true hc)]
    · rw [if_neg hc, if_neg (by simp [hc])]
theorem canH_N (c : Ch) (x : Nat) : ∀ k, canH c x k = setN (fun p => (whereC c (p : Nat)).testBit x) k
  | 0 => rfl
  | k + 1 => by rw [canH, setN, ← canH_N c x k]
theorem sureH_N (c : Ch) (x : Nat) : ∀ k, sureH c x k = setN (fun p => (whereC c (p : Nat)).testBit x && decide (pop (whereC c (p : Nat)) = 1)) k
  | 0 => rfl
  | k + 1 => by
    rw [sureH, setN, ← sureH_N c x k]
    by_cases hc : (whereC c (k : Nat)).testBit x = true ∧ pop (whereC c (k : Nat)) = 1
    · rw [if_pos hc, if_pos (by rw [hc.1, decide_eq_true hc.2]; rfl)]
    · rw [if_neg hc, if_neg (fun h => hc (by simpa using h))]
theorem whereC_lt2 (c : Ch) (p : Int) : whereC c p < 2 ^ c.ps.toNat := by rw [whereC, whereN_N]; exact setN_lt2 _ _
theorem whereC_bit (c : Ch) (p : Int) (u : Nat) : (whereC c p).testBit u = (decide (u < c.ps.toNat) && decide (D (eF c.kn (-1)) (holN p c.rs c.rs.length).toNat u ≤ c.ms - leastC c)) := by rw [whereC, whereN_N, setN_bit]
theorem canH_lt2 (c : Ch) (x k : Nat) : canH c x k < 2 ^ k := by rw [canH_N]; exact setN_lt2 _ _
theorem sureH_lt2 (c : Ch) (x k : Nat) : sureH c x k < 2 ^ k := by rw [sureH_N]; exact setN_lt2 _ _
theorem canH_bit (c : Ch) (x : Nat) {k p : Nat} (h : p < k) : (canH c x k).testBit p = (whereC c (p : Nat)).testBit x := by rw [canH_N, setN_bit, decide_eq_true h, Bool.true_and]
theorem one_bit2 : ∀ l, l < 256 → ∀ x, x < 8 → (l = 2 ^ x ↔ (l.testBit x = true ∧ pop l = 1)) := by decide +kernel
theorem sureH_bit {c : Ch} (hv : c.valid = true) {x : Nat} (hx : x < 8) {k p : Nat} (h : p < k) : (sureH c x k).testBit p = decide (whereC c (p : Nat) = 2 ^ x) := by
  rw [sureH_N, setN_bit, decide_eq_true h, Bool.true_and]
  have := one_bit2 (whereC c (p : Nat)) (whereC_lt hv _) x hx
  by_cases e : whereC c (p : Nat) = 2 ^ x
  · rw [decide_eq_true e, (this.1 e).1, decide_eq_true (this.1 e).2]; rfl
  · rw [decide_eq_false e]
    cases h1 : (whereC c (p : Nat)).testBit x with
    | false => rfl
    | true =>
      rw [decide_eq_false fun h2 => e (this.2 ⟨h1, h2⟩)]; rfl
end Go.Proofs.Ytagdholenfkeaaa

/- A record more: what it takes. -/
namespace Go.Proofs.Ytagdholenfkeaaa
open Go.Gh
def Ch.snoc (c : Ch) (r : Rc) : Ch := { c with rs := c.rs ++ [r] }
theorem sel_app {p : Int} {rs : List Rc} {r : Rc} {S S' : Nat} : ∀ k, k ≤ rs.length → (∀ i, i < k → S.testBit i = S'.testBit i) → selN p S (rs ++ [r]) k = selN p S' rs k
  | 0, _, _ => rfl
  | k + 1, hk, hb => by
    have ih := sel_app (p := p) (rs := rs) (r := r) (S := S) (S' := S') k (by omega) fun i hi => hb i (by omega)
    simp only [selN]
    rw [List.getElem?_append_left (by omega), ih, hb k (by omega)]
theorem sel_snoc (p : Int) (rs : List Rc) (r : Rc) : selN p (allS (rs ++ [r]).length) (rs ++ [r]) (rs ++ [r]).length = if r.p = p then selN p (allS rs.length) rs rs.length ++ [(rs.length, r)] else selN p (allS rs.length) rs rs.length := by
  have h := sel_app (p := p) (rs := rs) (r := r) (S := allS (rs.length + 1)) (S' := allS rs.length) rs.length (Nat.le_refl _) fun i hi => by rw [all_bit (by omega), all_bit hi]
  rw [List.length_append, List.length_singleton]
  simp only [selN]
  rw [List.getElem?_append_right (Nat.le_refl _), Nat.sub_self, List.getElem?_cons_zero]
  simp only []
  rw [h, all_bit (Nat.lt_succ_self _)]
  by_cases e : r.p = p
  · rw [if_pos ⟨e, rfl⟩, if_pos e]
  · rw [if_neg (fun h => e h.1), if_neg e]
theorem steps_snoc (f : Mx) (l : List (Nat × Rc)) (e : Nat × Rc) : totV f (stepsL (l ++ [e])) = totV f (stepsL l) + f (lastH 0 l).toNat e.2.f.toNat := by
  simp only [stepsL, totV_snoc, toL_snoc, leastV]; omega
theorem last_all {p : Int} {rs : List Rc} : lastH 0 (selN p (allS rs.length) rs rs.length) = holN p rs rs.length := by
  rw [← last_hol rs.length (fun i hi => all_bit hi)]; rfl
theorem tot_snoc (f : Mx) (rs : List Rc) (r : Rc) (q : Int) : totV f (stepsL (selN q (allS (rs ++ [r]).length) (rs ++ [r]) (rs ++ [r]).length)) = totV f (stepsL (selN q (allS rs.length) rs rs.length)) + if r.p = q then f (holN q rs rs.length).toNat r.f.toNat else 0 := by
  rw [sel_snoc]
  split
  · rw [steps_snoc, last_all]
  · omega
theorem all_snoc (f : Mx) (rs : List Rc) (r : Rc) {p : Nat} (hp : r.p = p) : ∀ k, allV f (rs ++ [r]) (allS (rs ++ [r]).length) k = allV f rs (allS rs.length) k + if p < k then f (holN p rs rs.length).toNat r.f.toNat else 0
  | 0 => by simp [allV]
  | k + 1 => by
    simp only [allV]
    rw [all_snoc f rs r hp k, tot_snoc, hp]
    by_cases e : p = k
    · subst e
      rw [if_neg (by omega), if_pos rfl, if_pos (by omega)]; omega
    · rw [if_neg (show ¬ ((p : Nat) : Int) = (k : Nat) by omega)]
      by_cases h : p < k
      · rw [if_pos h, if_pos (by omega)]; omega
      · rw [if_neg h, if_neg (by omega)]; omega
theorem least_snoc (c : Ch) (r : Rc) {p : Nat} (hp : r.p = p) (hpl : (p : Int) < c.pl) : leastC (c.snoc r) = leastC c + D (eF c.kn (-1)) (holN p c.rs c.rs.length).toNat r.f.toNat := by
  have := all_snoc (D (eF c.kn (-1))) c.rs r hp c.pl.toNat
  rw [if_pos (by omega)] at this
  exact this
theorem any_snoc {α : Type} (l : List α) (x : α) (q : α → Bool) : (l ++ [x]).any q = (l.any q || q x) := by simp
theorem snoc_valid {c : Ch} (hv : c.valid = true) {r : Rc} (hl : c.rs.length ≤ 11) (hr : badR c.pl c.ps r = false) : (c.snoc r).valid = true := by
  have key : ∀ l : List Rc, ({ c with rs := l } : Ch).valid = (c.head && decide ((c.kn.length : Int) ≤ 28) && decide ((l.length : Int) ≤ 12) && !c.kn.any (badK c.ps) && !l.any (badR c.pl c.ps)) := fun l => rfl
  have h0 := key c.rs
  rw [show ({ c with rs := c.rs } : Ch) = c from rfl, hv] at h0
  have h1 := h0.symm
  rw [decide_eq_true (show ((c.rs.length : Nat) : Int) ≤ 12 by omega)] at h1
  rw [Ch.snoc, key, any_snoc, hr, Bool.or_false, decide_eq_true (show (((c.rs ++ [r]).length : Nat) : Int) ≤ 12 by rw [List.length_append, List.length_singleton]; omega)]
  exact h1
theorem rec_ok {c : Ch} {p u t : Int} (hp : 0 ≤ p ∧ p < c.pl) (hu : 0 ≤ u ∧ u < c.ps) (ht : 0 ≤ t ∧ t < c.ps) (hne : u ≠ t) : badR c.pl c.ps ⟨p, u, t⟩ = false := by
  simp only [badR]
  rw [decide_eq_true hp.1, decide_eq_true (show p ≤ c.pl - 1 by omega), decide_eq_true hu.1, decide_eq_true (show u ≤ c.ps - 1 by omega), decide_eq_true ht.1, decide_eq_true (show t ≤ c.ps - 1 by omega), decide_eq_false hne]
  rfl
theorem D_zero {e : Nat → Nat → Bool} {i k : Nat} (h : D e i k ≤ 0) : i = k := by
  obtain ⟨n, hn, hw⟩ := D_sound (e := e) (i := i) (k := k) (by simp only [NEV]; omega)
  obtain rfl : n = 0 := by omega
  exact hw
theorem hol_lt {c : Ch} (hv : c.valid = true) {p : Int} : ∀ k, 0 ≤ holN p c.rs k ∧ holN p c.rs k < c.ps
  | 0 => by have := valid_num hv; simp only [holN]; omega
  | k + 1 => by
    simp only [holN]
    split
    · rename_i r hr
      split
      · have := valid_rs hv (List.mem_of_getElem? hr); omega
      · exact hol_lt hv k
    · exact hol_lt hv k
section
variable {c : Ch} (hv : c.valid = true) (hc : leastC c ≤ c.ms) {p : Int}
include hv hc
theorem where_last : (whereC c p).testBit (holN p c.rs c.rs.length).toNat = true := by
  have h := hol_lt hv (p := p) c.rs.length
  have := (D_ok (eF c.kn (-1))).zz (holN p c.rs c.rs.length).toNat
  rw [whereC_bit, decide_eq_true (by omega), decide_eq_true (by omega)]; rfl
theorem where_pos : 1 ≤ whereC c p := by
  have h := where_last hv hc (p := p)
  cases e : whereC c p with
  | zero => rw [e, Nat.zero_testBit] at h; cases h
  | succ n => omega
theorem where_min (he : leastC c = c.ms) : whereC c p = 2 ^ (holN p c.rs c.rs.length).toNat := by
  have h := hol_lt hv (p := p) c.rs.length
  apply Nat.eq_of_testBit_eq
  intro u
  rw [Nat.testBit_two_pow]
  by_cases hu : (holN p c.rs c.rs.length).toNat = u
  · rw [decide_eq_true hu, ← hu]; exact where_last hv hc
  · rw [decide_eq_false hu, whereC_bit]
    rw [decide_eq_false (p := D (eF c.kn (-1)) (holN p c.rs c.rs.length).toNat u ≤ c.ms - leastC c) (fun h => hu (D_zero (e := eF c.kn (-1)) (by omega))), Bool.and_false]
end
end Go.Proofs.Ytagdholenfkeaaa

/- Which chains are valid, as the document asks for it. -/
namespace Go.Proofs.Ytagdholenfkeaaa
open Go.Gh
def inW (x m : Int) : Bool := decide (0 ≤ x) && decide (x ≤ IntKind.i64.wrap (m - 1))
theorem inW_eq {m : Int} (h : 1 ≤ m ∧ m ≤ 8) (x : Int) : inW x m = inQ x m := by
  rw [inW, inQ, IntWalk.i64_in (m - 1) (by omega)]
def badKW (ps : Int) (k : Kw) : Bool := !inW k.a ps || !inW k.b ps || decide (k.a = k.b)
def badRW (pl ps : Int) (r : Rc) : Bool := !inW r.p pl || !inW r.f ps || !inW r.t ps || decide (r.f = r.t)
theorem badKW_eq {ps : Int} (h : 1 ≤ ps ∧ ps ≤ 8) (k : Kw) : badKW ps k = badK ps k := by simp only [badKW, badK, inW_eq h, inQ]
theorem badRW_eq {pl ps : Int} (h : 1 ≤ ps ∧ ps ≤ 8) (g : 1 ≤ pl ∧ pl ≤ 4) (r : Rc) : badRW pl ps r = badR pl ps r := by simp only [badRW, badR, inW_eq h, inW_eq (m := pl) (by omega), inQ]
theorem head_false {c : Ch} (h : ¬ ((1 ≤ c.pl ∧ c.pl ≤ 4) ∧ (1 ≤ c.ps ∧ c.ps ≤ 8))) : c.valid = false := by
  have : c.head = false := by
    cases e : c.head with
    | false => rfl
    | true => simp only [Ch.head, Bool.and_eq_true, decide_eq_true_eq] at e; exact absurd ⟨e.1.1, e.1.2⟩ h
  simp [Ch.valid, this]
theorem valid_badK {c : Ch} {k : Nat} {x : Kw} (hx : c.kn[k]? = some x) (hb : badKW c.ps x = true) : c.valid = false := by
  by_cases h : (1 ≤ c.pl ∧ c.pl ≤ 4) ∧ (1 ≤ c.ps ∧ c.ps ≤ 8)
  · rw [badKW_eq h.2] at hb
    have : c.kn.any (badK c.ps) = true := List.any_eq_true.2 ⟨x, List.mem_of_getElem? hx, hb⟩
    simp [Ch.valid, this]
  · exact head_false h
theorem valid_badR {c : Ch} {k : Nat} {x : Rc} (hx : c.rs[k]? = some x) (hb : badRW c.pl c.ps x = true) : c.valid = false := by
  by_cases h : (1 ≤ c.pl ∧ c.pl ≤ 4) ∧ (1 ≤ c.ps ∧ c.ps ≤ 8)
  · rw [badRW_eq h.2 h.1] at hb
    have : c.rs.any (badR c.pl c.ps) = true := List.any_eq_true.2 ⟨x, List.mem_of_getElem? hx, hb⟩
    simp [Ch.valid, this]
  · exact head_false h
theorem valid_end {c : Ch} (h1 : c.kn.any (badKW c.ps) = false) (h2 : c.rs.any (badRW c.pl c.ps) = false) : c.valid = (((((decide (1 ≤ c.pl) && decide (c.pl ≤ 4)) && (decide (1 ≤ c.ps) && decide (c.ps ≤ 8))) && decide ((c.kn.length : Int) ≤ 28)) && decide ((c.rs.length : Int) ≤ 12)) && (decide (0 ≤ c.ms) && decide (c.ms ≤ 20))) := by
  by_cases h : (1 ≤ c.pl ∧ c.pl ≤ 4) ∧ (1 ≤ c.ps ∧ c.ps ≤ 8)
  · rw [show badKW c.ps = badK c.ps from funext fun k => badKW_eq h.2 k] at h1
    rw [show badRW c.pl c.ps = badR c.pl c.ps from funext fun r => badRW_eq h.2 h.1 r] at h2
    simp only [Ch.valid, Ch.head, h1, h2, Bool.not_false, Bool.and_true]
    cases decide (0 ≤ c.ms) && decide (c.ms ≤ 20) <;> simp
  · rw [head_false h]
    symm
    have : ((decide (1 ≤ c.pl) && decide (c.pl ≤ 4)) && (decide (1 ≤ c.ps) && decide (c.ps ≤ 8))) = false := by
      cases e : ((decide (1 ≤ c.pl) && decide (c.pl ≤ 4)) && (decide (1 ≤ c.ps) && decide (c.ps ≤ 8))) with
      | false => rfl
      | true => simp only [Bool.and_eq_true, decide_eq_true_eq] at e; exact absurd ⟨e.1, e.2⟩ h
    simp [this]
theorem any_step {α : Type} {l : List α} {q : α → Bool} {k : Nat} {x : α} (h : l[k]? = some x) (hx : q x = false) (ha : (l.take k).any q = false) : (l.take (k + 1)).any q = false := by
  rw [List.take_add_one, h, List.any_append, ha]; simp [hx]
theorem any_at {α : Type} {l : List α} {q : α → Bool} {k : Nat} {x : α} (h : l[k]? = some x) (hx : q x = true) : l.any q = true := List.any_eq_true.2 ⟨x, List.mem_of_getElem? h, hx⟩
end Go.Proofs.Ytagdholenfkeaaa

/- Rules of written-out states: sums that are wrapped, in regions in order. -/
namespace Go.Proofs.Ytagdholenfkeaaa
open Go.Gh
set_option maxRecDepth 100000
variable {E : Env Try.prog} {C : Cx E} {r : Option Nat} {ops : Array Oper} {Q : GE → Sg E → Prop} {rest : List Oper} {l : List (Nat × G)} {m : List (Nat × Ob)} {A : E.α} {df : List GD} {t : Nat} {ty : TypeId} {pos : String} {af : Array Edge}
theorem q0 {bo : BinOp} {t1 t2 : TypeId} {x y : Operand} {u v z : Int} (hx : gev (mkFr l) x = .p (.int .i64 u) := by (simp only [gev, ofV, mkFr_cons, Nat.reduceEqDiff, reduceIte] <;> rfl)) (hy : gev (mkFr l) y = .p (.int .i64 v) := by (simp only [gev, ofV, mkFr_cons, Nat.reduceEqDiff, reduceIte] <;> rfl)) (hb : (bo = .add ∧ z = u + v) ∨ (bo = .sub ∧ z = u - v) := by first | exact .inl ⟨rfl, rfl⟩ | exact .inr ⟨rfl, rfl⟩)
    (hd : mkHp m 99999 = .none := by (simp only [mkHp_cons, mkHp_nil, Nat.reduceEqDiff, reduceIte])) (ht : t < C.N := by omega) (k : gops C r ops Q rest (sg ((t, .p (.int .i64 (IntKind.i64.wrap z))) :: l) m A df)) :
    gops C r ops Q (⟨some t, .binOp bo t1 x y t2, ty, pos, af, none⟩ :: rest) (sg l m A df) :=
  gops_eff (eff_wrap (σ := sg l m A df) rfl hb (gwant_plain rfl) hx hy hd (by have := C.limOk; omega) (fun t' e => by cases e; exact ht)) k
end Go.Proofs.Ytagdholenfkeaaa

/- The document: which chains are valid. -/
namespace Go.Proofs.Ytagdholenfkeaaa
open Go.Gh
set_option maxRecDepth 100000
set_option maxHeartbeats 4000000
structure kWf1 (c : Prop) : Prop where
  h : c := by (first | exact True.intro | (simp only [inI]; omega) | (simp [P.size, pr, pk, all_int, allOne_p, goods_p, allOne, goods, good, G.one, P.one, P.cells] <;> first | omega | assumption | simp_all))
theorem s_inW (n m : Int) : PSpec Try.prog 50 [.int .i64 n, .int .i64 0, .int .i64 (IntKind.i64.wrap (m - 1))] (.ok (.bool (inW n m))) := s_in n 0 _
theorem ent49 : Enters Try.prog 49 := Enters.mk Try.func49 (by kernel_rfl) rfl
theorem r_plateW (c : Ch) (n : Int) : PSpec Try.prog 49 [.agg [.int .i64 c.pl, .int .i64 c.ps, .list (c.kn.map pk), .list (c.rs.map pr), .int .i64 c.ms], .int .i64 n] (.ok (.bool (inW n c.pl))) := by
  refine pspec_of Try.func49 (rfl : Try.f49.body = some _) rfl ?_
  intro E A C hN hL
  replace hN : C.N = 10 := hN
  simp only [Gh.num, List.map_cons, List.map_nil, Nat.reduceAdd]
  repeat refine gwp_seq ?_
  refine gwp_region ?_
  refine n1 120 false (hc := kWf1.h {}) (k := ?_)
  refine v0 (k := ?_)
  refine nil0 ?_
  refine cl [1, 2] (k := ?_)
  repeat refine gwp_seq ?_
  refine gwp_region ?_
  refine v0 (k := ?_)
  refine v0 (k := ?_)
  refine v0 (k := ?_)
  refine q0 (k := ?_)
  refine pc0 (spec := s_in _ _ _) (hent := ent50) (k := ?_)
  refine v0 (k := ?_)
  refine nil0 ?_
  repeat refine gwp_seq ?_
  refine gwp_ret ?_
  repeat (first | refine gthen_ret ?_ | refine gblock_ret ?_ | refine gnoGoto_ret ?_)
  refine fin_ret ?_
  refine fp (hR := ?_)
  rfl
theorem ent89 : Enters Try.prog 89 := Enters.mk Try.func89 (by kernel_rfl) rfl
theorem r_personW (c : Ch) (n : Int) : PSpec Try.prog 89 [.agg [.int .i64 c.pl, .int .i64 c.ps, .list (c.kn.map pk), .list (c.rs.map pr), .int .i64 c.ms], .int .i64 n] (.ok (.bool (inW n c.ps))) := by
  refine pspec_of Try.func89 (rfl : Try.f89.body = some _) rfl ?_
  intro E A C hN hL
  replace hN : C.N = 10 := hN
  simp only [Gh.num, List.map_cons, List.map_nil, Nat.reduceAdd]
  repeat refine gwp_seq ?_
  refine gwp_region ?_
  refine n1 120 false (hc := kWf1.h {}) (k := ?_)
  refine v0 (k := ?_)
  refine nil0 ?_
  refine cl [1, 2] (k := ?_)
  repeat refine gwp_seq ?_
  refine gwp_region ?_
  refine v0 (k := ?_)
  refine v0 (k := ?_)
  refine v0 (k := ?_)
  refine q0 (k := ?_)
  refine pc0 (spec := s_in _ _ _) (hent := ent50) (k := ?_)
  refine v0 (k := ?_)
  refine nil0 ?_
  repeat refine gwp_seq ?_
  refine gwp_ret ?_
  repeat (first | refine gthen_ret ?_ | refine gblock_ret ?_ | refine gnoGoto_ret ?_)
  refine fin_ret ?_
  refine fp (hR := ?_)
  rfl
theorem ent35 : Enters Try.prog 35 := Enters.mk Try.func35 (by kernel_rfl) rfl
theorem r_chain (c : Ch) (h1 : c.kn.length ≤ 1048576) (h2 : c.rs.length ≤ 1048576) : PSpec Try.prog 35 [.agg [.int .i64 c.pl, .int .i64 c.ps, .list (c.kn.map pk), .list (c.rs.map pr), .int .i64 c.ms]] (.ok (.bool c.valid)) := by
  refine pspec_of Try.func35 (rfl : Try.f35.body = some _) rfl ?_
  intro E A C hN hL
  replace hN : C.N = 103 := hN
  simp only [Gh.num, List.map_cons, List.map_nil, Nat.reduceAdd]
  have hpk : ∀ k : Kw, pk k = P.agg [.int .i64 k.a, .int .i64 k.b] := fun _ => rfl
  have hpr : ∀ r : Rc, pr r = P.agg [.int .i64 r.p, .int .i64 r.f, .int .i64 r.t] := fun _ => rfl
  repeat refine gwp_seq ?_
  refine gwp_region ?_
  refine n1 110 false (hc := kWf1.h {}) (k := ?_)
  refine v0 (k := ?_)
  refine nil0 ?_
  refine cl [1] (k := ?_)
  repeat refine gwp_seq ?_
  refine gwp_region ?_
  refine v0 (k := ?_)
  refine nil0 ?_
  refine cl [1, 3] (k := ?_)
  repeat refine gwp_seq ?_
  refine gwp_block ?_
  repeat refine gwp_seq ?_
  refine gc_loop (fun mz σ => ∃ k : Nat, (k ≤ c.kn.length) ∧ ((c.kn.take k).any (badKW c.ps) = false) ∧ mz = c.kn.length - k ∧ σ = (sg [(1, .ref 110 0), (3, .p (.int .i64 (k : Nat)))] [(110, .cells [.p (.int .i64 c.pl), .p (.int .i64 c.ps), .p (.list (c.kn.map pk)), .p (.list (c.rs.map pr)), .p (.int .i64 c.ms)] 0)] A [] : Sg E)) ?_ (fun mz σ hI => ?_)
  · refine lbeg [1, 3] (hV := ?_)
    exact ⟨_, 0, by omega, rfl, rfl, rfl⟩
  obtain ⟨k, hk, ha, hnn, rfl⟩ := hI
  repeat refine gwp_seq ?_
  refine gwp_region ?_
  refine v0 (k := ?_)
  refine v0 (k := ?_)
  refine v0 (k := ?_)
  refine v0 (k := ?_)
  refine v0 (k := ?_)
  refine nil0 ?_
  repeat refine gwp_seq ?_
  refine cB (k1 := fun hb1 => ?_) (k0 := fun hb1 => ?_)
  · replace hb1 := hB.h {} hb1
    repeat refine gwp_seq ?_
    refine gwp_skip ?_
    refine cl [1, 3] (k := ?_)
    repeat refine gwp_seq ?_
    refine gwp_block ?_
    repeat refine gwp_seq ?_
    obtain ⟨z, hz⟩ := getE (l := c.kn) (k := k) (by omega)
    refine gwp_region ?_
    refine v0 (k := ?_)
    refine v0 (k := ?_)
    refine v0 (k := ?_)
    refine v1 (hc := kWf1.h {}) (k := ?_)
    refine v0 (k := ?_)
    refine n1 140 false (hc := kWf1.h {}) (k := ?_)
    refine s1 (hc := kWf1.h {}) (k := ?_)
    refine nil0 ?_
    refine cl [1, 3, 4] (k := ?_)
    repeat refine gwp_seq ?_
    refine gwp_region ?_
    refine v0 (k := ?_)
    refine v1 (hc := kWf1.h {}) (k := ?_)
    refine v0 (k := ?_)
    refine pc0 (spec := r_personW c _) (hent := ent89) (k := ?_)
    refine v0 (k := ?_)
    refine v0 (k := ?_)
    refine b0 (k1 := fun hb2 => ?_) (k0 := fun hb2 => ?_)
    · replace hb2 := hB.h {} hb2
      refine x0 (k := ?_)
      refine x0 (k := ?_)
      refine x0 (k := ?_)
      refine x0 (k := ?_)
      refine x0 (k := ?_)
      refine v0 (k := ?_)
      refine v0 (k := ?_)
      refine x0 (k := ?_)
      refine x0 (k := ?_)
      refine x0 (k := ?_)
      refine x0 (k := ?_)
      refine x0 (k := ?_)
      refine v0 (k := ?_)
      refine nil0 ?_
      repeat refine gwp_seq ?_
      refine cT (k := ?_)
      repeat refine gwp_seq ?_
      refine gwp_region ?_
      refine v0 (k := ?_)
      refine nil0 ?_
      repeat refine gwp_seq ?_
      refine gwp_ret ?_
      repeat (first | refine gthen_ret ?_ | refine gblock_ret ?_ | refine gnoGoto_ret ?_)
      refine fin_ret ?_
      refine fp (hR := ?_)
      first
      | (rw [valid_badK hz (by simp only [badKW]; simp [*]; done)]; rfl)
      | (rw [valid_badR hw (by simp only [badRW]; simp [*]; done)]; rfl)
      | (rw [valid_end ha hr]
         simp only [PRes.at, GRes.ok.injEq, G.p.injEq, P.bool.injEq, and_true]
         first | (simp [*]; done) | (symm; simp; omega) | (simp; omega))
    · replace hb2 := hB.h {} hb2
      refine w0 (k := ?_)
      refine w1 (hc := kWf1.h {}) (k := ?_)
      refine w0 (k := ?_)
      refine pcw (spec := r_personW c _) (hent := ent89) (k := ?_)
      refine w0 (k := ?_)
      refine v0 (k := ?_)
      refine v0 (k := ?_)
      refine b0 (k1 := fun hb3 => ?_) (k0 := fun hb3 => ?_)
      · replace hb3 := hB.h {} hb3
        refine x0 (k := ?_)
        refine x0 (k := ?_)
        refine x0 (k := ?_)
        refine x0 (k := ?_)
        refine x0 (k := ?_)
        refine v0 (k := ?_)
        refine nil0 ?_
        repeat refine gwp_seq ?_
        refine cT (k := ?_)
        repeat refine gwp_seq ?_
        refine gwp_region ?_
        refine v0 (k := ?_)
        refine nil0 ?_
        repeat refine gwp_seq ?_
        refine gwp_ret ?_
        repeat (first | refine gthen_ret ?_ | refine gblock_ret ?_ | refine gnoGoto_ret ?_)
        refine fin_ret ?_
        refine fp (hR := ?_)
        first
        | (rw [valid_badK hz (by simp only [badKW]; simp [*]; done)]; rfl)
        | (rw [valid_badR hw (by simp only [badRW]; simp [*]; done)]; rfl)
        | (rw [valid_end ha hr]
           simp only [PRes.at, GRes.ok.injEq, G.p.injEq, P.bool.injEq, and_true]
           first | (simp [*]; done) | (symm; simp; omega) | (simp; omega))
      · replace hb3 := hB.h {} hb3
        refine w1 (hc := kWf1.h {}) (k := ?_)
        refine w0 (k := ?_)
        refine w1 (hc := kWf1.h {}) (k := ?_)
        refine w0 (k := ?_)
        refine w0 (k := ?_)
        refine v0 (k := ?_)
        refine nil0 ?_
        repeat refine gwp_seq ?_
        refine cB (k1 := fun hb4 => ?_) (k0 := fun hb4 => ?_)
        · replace hb4 := hB.h {} hb4
          repeat refine gwp_seq ?_
          refine gwp_region ?_
          refine v0 (k := ?_)
          refine nil0 ?_
          repeat refine gwp_seq ?_
          refine gwp_ret ?_
          repeat (first | refine gthen_ret ?_ | refine gblock_ret ?_ | refine gnoGoto_ret ?_)
          refine fin_ret ?_
          refine fp (hR := ?_)
          first
          | (rw [valid_badK hz (by simp only [badKW]; simp [*]; done)]; rfl)
          | (rw [valid_badR hw (by simp only [badRW]; simp [*]; done)]; rfl)
          | (rw [valid_end ha hr]
             simp only [PRes.at, GRes.ok.injEq, G.p.injEq, P.bool.injEq, and_true]
             first | (simp [*]; done) | (symm; simp; omega) | (simp; omega))
        · replace hb4 := hB.h {} hb4
          repeat refine gwp_seq ?_
          refine gwp_skip ?_
          refine cl [1, 3] (k := ?_)
          repeat refine gwp_seq ?_
          refine gwp_region ?_
          refine v0 (k := ?_)
          refine v1 (hc := kWf1.h {}) (k := ?_)
          refine v0 (k := ?_)
          refine nil0 ?_
          refine lend [1, 3] (h := ?_) (hV := ?_) (n' := c.kn.length - (k + 1))
          · omega
          exact ⟨k + 1, by omega, any_step hz (by simp only [badKW]; simp [*]; done) ha, rfl, rfl⟩
  · replace hb1 := hB.h {} hb1
    repeat refine gwp_seq ?_
    refine gwp_exit ?_
    repeat (first | refine gthen_exit ?_ | refine gnoGoto_exit ?_ | refine gblock_here ?_ | refine gblock_out rfl ?_)
    refine cl [1] (k := ?_)
    repeat refine gwp_seq ?_
    obtain rfl : k = c.kn.length := by omega
    rw [List.take_length] at ha
    refine gwp_region ?_
    refine v0 (k := ?_)
    refine nil0 ?_
    refine cl [1, 5] (k := ?_)
    repeat refine gwp_seq ?_
    refine gwp_block ?_
    repeat refine gwp_seq ?_
    refine gc_loop (fun mz σ => ∃ k : Nat, (k ≤ c.rs.length) ∧ ((c.rs.take k).any (badRW c.pl c.ps) = false) ∧ mz = c.rs.length - k ∧ σ = (sg [(1, .ref 110 0), (5, .p (.int .i64 (k : Nat)))] [(110, .cells [.p (.int .i64 c.pl), .p (.int .i64 c.ps), .p (.list (c.kn.map pk)), .p (.list (c.rs.map pr)), .p (.int .i64 c.ms)] 0)] A [] : Sg E)) ?_ (fun mz σ hI => ?_)
    · refine lbeg [1, 5] (hV := ?_)
      exact ⟨_, 0, by omega, rfl, rfl, rfl⟩
    obtain ⟨k, hk, hr, hnn, rfl⟩ := hI
    repeat refine gwp_seq ?_
    refine gwp_region ?_
    refine v0 (k := ?_)
    refine v0 (k := ?_)
    refine v0 (k := ?_)
    refine v0 (k := ?_)
    refine v0 (k := ?_)
    refine nil0 ?_
    repeat refine gwp_seq ?_
    refine cB (k1 := fun hb5 => ?_) (k0 := fun hb5 => ?_)
    · replace hb5 := hB.h {} hb5
      repeat refine gwp_seq ?_
      refine gwp_skip ?_
      refine cl [1, 5] (k := ?_)
      repeat refine gwp_seq ?_
      refine gwp_block ?_
      repeat refine gwp_seq ?_
      obtain ⟨w, hw⟩ := getE (l := c.rs) (k := k) (by omega)
      refine gwp_region ?_
      refine v0 (k := ?_)
      refine v0 (k := ?_)
      refine v0 (k := ?_)
      refine v1 (hc := kWf1.h {}) (k := ?_)
      refine v0 (k := ?_)
      refine n1 160 false (hc := kWf1.h {}) (k := ?_)
      refine s1 (hc := kWf1.h {}) (k := ?_)
      refine nil0 ?_
      refine cl [1, 5, 6] (k := ?_)
      repeat refine gwp_seq ?_
      refine gwp_region ?_
      refine v0 (k := ?_)
      refine v0 (k := ?_)
      refine v0 (k := ?_)
      refine v0 (k := ?_)
      refine q0 (k := ?_)
      refine pc0 (spec := s_inW w.p c.pl) (hent := ent50) (k := ?_)
      refine v0 (k := ?_)
      refine v0 (k := ?_)
      refine b0 (k1 := fun hb6 => ?_) (k0 := fun hb6 => ?_)
      · replace hb6 := hB.h {} hb6
        refine x0 (k := ?_)
        refine x0 (k := ?_)
        refine x0 (k := ?_)
        refine x0 (k := ?_)
        refine x0 (k := ?_)
        refine v0 (k := ?_)
        refine v0 (k := ?_)
        refine x0 (k := ?_)
        refine x0 (k := ?_)
        refine x0 (k := ?_)
        refine x0 (k := ?_)
        refine x0 (k := ?_)
        refine v0 (k := ?_)
        refine v0 (k := ?_)
        refine x0 (k := ?_)
        refine x0 (k := ?_)
        refine x0 (k := ?_)
        refine x0 (k := ?_)
        refine x0 (k := ?_)
        refine v0 (k := ?_)
        refine nil0 ?_
        repeat refine gwp_seq ?_
        refine cT (k := ?_)
        repeat refine gwp_seq ?_
        refine gwp_region ?_
        refine v0 (k := ?_)
        refine nil0 ?_
        repeat refine gwp_seq ?_
        refine gwp_ret ?_
        repeat (first | refine gthen_ret ?_ | refine gblock_ret ?_ | refine gnoGoto_ret ?_)
        refine fin_ret ?_
        refine fp (hR := ?_)
        first
        | (rw [valid_badK hz (by simp only [badKW]; simp [*]; done)]; rfl)
        | (rw [valid_badR hw (by simp only [badRW]; simp [*]; done)]; rfl)
        | (rw [valid_end ha hr]
           simp only [PRes.at, GRes.ok.injEq, G.p.injEq, P.bool.injEq, and_true]
           first | (simp [*]; done) | (symm; simp; omega) | (simp; omega))
      · replace hb6 := hB.h {} hb6
        refine w0 (k := ?_)
        refine w0 (k := ?_)
        refine w0 (k := ?_)
        refine pcw (spec := r_personW c _) (hent := ent89) (k := ?_)
        refine w0 (k := ?_)
        refine v0 (k := ?_)
        refine v0 (k := ?_)
        refine b0 (k1 := fun hb7 => ?_) (k0 := fun hb7 => ?_)
        · replace hb7 := hB.h {} hb7
          refine x0 (k := ?_)
          refine x0 (k := ?_)
          refine x0 (k := ?_)
          refine x0 (k := ?_)
          refine x0 (k := ?_)
          refine v0 (k := ?_)
          refine v0 (k := ?_)
          refine x0 (k := ?_)
          refine x0 (k := ?_)
          refine x0 (k := ?_)
          refine x0 (k := ?_)
          refine x0 (k := ?_)
          refine v0 (k := ?_)
          refine nil0 ?_
          repeat refine gwp_seq ?_
          refine cT (k := ?_)
          repeat refine gwp_seq ?_
          refine gwp_region ?_
          refine v0 (k := ?_)
          refine nil0 ?_
          repeat refine gwp_seq ?_
          refine gwp_ret ?_
          repeat (first | refine gthen_ret ?_ | refine gblock_ret ?_ | refine gnoGoto_ret ?_)
          refine fin_ret ?_
          refine fp (hR := ?_)
          first
          | (rw [valid_badK hz (by simp only [badKW]; simp [*]; done)]; rfl)
          | (rw [valid_badR hw (by simp only [badRW]; simp [*]; done)]; rfl)
          | (rw [valid_end ha hr]
             simp only [PRes.at, GRes.ok.injEq, G.p.injEq, P.bool.injEq, and_true]
             first | (simp [*]; done) | (symm; simp; omega) | (simp; omega))
        · replace hb7 := hB.h {} hb7
          refine w0 (k := ?_)
          refine w0 (k := ?_)
          refine w0 (k := ?_)
          refine pcw (spec := r_personW c _) (hent := ent89) (k := ?_)
          refine w0 (k := ?_)
          refine v0 (k := ?_)
          refine v0 (k := ?_)
          refine b0 (k1 := fun hb8 => ?_) (k0 := fun hb8 => ?_)
          · replace hb8 := hB.h {} hb8
            refine x0 (k := ?_)
            refine x0 (k := ?_)
            refine x0 (k := ?_)
            refine x0 (k := ?_)
            refine x0 (k := ?_)
            refine v0 (k := ?_)
            refine nil0 ?_
            repeat refine gwp_seq ?_
            refine cT (k := ?_)
            repeat refine gwp_seq ?_
            refine gwp_region ?_
            refine v0 (k := ?_)
            refine nil0 ?_
            repeat refine gwp_seq ?_
            refine gwp_ret ?_
            repeat (first | refine gthen_ret ?_ | refine gblock_ret ?_ | refine gnoGoto_ret ?_)
            refine fin_ret ?_
            refine fp (hR := ?_)
            first
            | (rw [valid_badK hz (by simp only [badKW]; simp [*]; done)]; rfl)
            | (rw [valid_badR hw (by simp only [badRW]; simp [*]; done)]; rfl)
            | (rw [valid_end ha hr]
               simp only [PRes.at, GRes.ok.injEq, G.p.injEq, P.bool.injEq, and_true]
               first | (simp [*]; done) | (symm; simp; omega) | (simp; omega))
          · replace hb8 := hB.h {} hb8
            refine w0 (k := ?_)
            refine w0 (k := ?_)
            refine w0 (k := ?_)
            refine w0 (k := ?_)
            refine w0 (k := ?_)
            refine v0 (k := ?_)
            refine nil0 ?_
            repeat refine gwp_seq ?_
            refine cB (k1 := fun hb9 => ?_) (k0 := fun hb9 => ?_)
            · replace hb9 := hB.h {} hb9
              repeat refine gwp_seq ?_
              refine gwp_region ?_
              refine v0 (k := ?_)
              refine nil0 ?_
              repeat refine gwp_seq ?_
              refine gwp_ret ?_
              repeat (first | refine gthen_ret ?_ | refine gblock_ret ?_ | refine gnoGoto_ret ?_)
              refine fin_ret ?_
              refine fp (hR := ?_)
              first
              | (rw [valid_badK hz (by simp only [badKW]; simp [*]; done)]; rfl)
              | (rw [valid_badR hw (by simp only [badRW]; simp [*]; done)]; rfl)
              | (rw [valid_end ha hr]
                 simp only [PRes.at, GRes.ok.injEq, G.p.injEq, P.bool.injEq, and_true]
                 first | (simp [*]; done) | (symm; simp; omega) | (simp; omega))
            · replace hb9 := hB.h {} hb9
              repeat refine gwp_seq ?_
              refine gwp_skip ?_
              refine cl [1, 5] (k := ?_)
              repeat refine gwp_seq ?_
              refine gwp_region ?_
              refine v0 (k := ?_)
              refine v1 (hc := kWf1.h {}) (k := ?_)
              refine v0 (k := ?_)
              refine nil0 ?_
              refine lend [1, 5] (h := ?_) (hV := ?_) (n' := c.rs.length - (k + 1))
              · omega
              exact ⟨k + 1, by omega, any_step hw (by simp only [badRW]; simp [*]; done) hr, rfl, rfl⟩
    · replace hb5 := hB.h {} hb5
      repeat refine gwp_seq ?_
      refine gwp_exit ?_
      repeat (first | refine gthen_exit ?_ | refine gnoGoto_exit ?_ | refine gblock_here ?_ | refine gblock_out rfl ?_)
      refine cl [1] (k := ?_)
      repeat refine gwp_seq ?_
      obtain rfl : k = c.rs.length := by omega
      rw [List.take_length] at hr
      refine gwp_region ?_
      refine v0 (k := ?_)
      refine v0 (k := ?_)
      refine pc0 (spec := s_in _ _ _) (hent := ent50) (k := ?_)
      refine v0 (k := ?_)
      refine b0 (k1 := fun hb10 => ?_) (k0 := fun hb10 => ?_)
      · replace hb10 := hB.h {} hb10
        refine w0 (k := ?_)
        refine w0 (k := ?_)
        refine pcw (spec := s_in _ _ _) (hent := ent50) (k := ?_)
        refine v0 (k := ?_)
        refine v0 (k := ?_)
        refine b0 (k1 := fun hb11 => ?_) (k0 := fun hb11 => ?_)
        · replace hb11 := hB.h {} hb11
          refine w0 (k := ?_)
          refine w0 (k := ?_)
          refine w0 (k := ?_)
          refine w0 (k := ?_)
          refine v0 (k := ?_)
          refine v0 (k := ?_)
          refine b0 (k1 := fun hb12 => ?_) (k0 := fun hb12 => ?_)
          · replace hb12 := hB.h {} hb12
            refine w0 (k := ?_)
            refine w0 (k := ?_)
            refine w0 (k := ?_)
            refine w0 (k := ?_)
            refine v0 (k := ?_)
            refine v0 (k := ?_)
            refine b0 (k1 := fun hb13 => ?_) (k0 := fun hb13 => ?_)
            · replace hb13 := hB.h {} hb13
              refine w0 (k := ?_)
              refine w0 (k := ?_)
              refine pcw (spec := s_in _ _ _) (hent := ent50) (k := ?_)
              refine v0 (k := ?_)
              refine v0 (k := ?_)
              refine nil0 ?_
              repeat refine gwp_seq ?_
              refine gwp_ret ?_
              repeat (first | refine gthen_ret ?_ | refine gblock_ret ?_ | refine gnoGoto_ret ?_)
              refine fin_ret ?_
              refine fp (hR := ?_)
              first
              | (rw [valid_badK hz (by simp only [badKW]; simp [*]; done)]; rfl)
              | (rw [valid_badR hw (by simp only [badRW]; simp [*]; done)]; rfl)
              | (rw [valid_end ha hr]
                 simp only [PRes.at, GRes.ok.injEq, G.p.injEq, P.bool.injEq, and_true]
                 first | (simp [*]; done) | (symm; simp; omega) | (simp; omega))
            · replace hb13 := hB.h {} hb13
              refine x0 (k := ?_)
              refine x0 (k := ?_)
              refine x0 (k := ?_)
              refine v0 (k := ?_)
              refine v0 (k := ?_)
              refine nil0 ?_
              repeat refine gwp_seq ?_
              refine gwp_ret ?_
              repeat (first | refine gthen_ret ?_ | refine gblock_ret ?_ | refine gnoGoto_ret ?_)
              refine fin_ret ?_
              refine fp (hR := ?_)
              first
              | (rw [valid_badK hz (by simp only [badKW]; simp [*]; done)]; rfl)
              | (rw [valid_badR hw (by simp only [badRW]; simp [*]; done)]; rfl)
              | (rw [valid_end ha hr]
                 simp only [PRes.at, GRes.ok.injEq, G.p.injEq, P.bool.injEq, and_true]
                 first | (simp [*]; done) | (symm; simp; omega) | (simp; omega))
          · replace hb12 := hB.h {} hb12
            refine x0 (k := ?_)
            refine x0 (k := ?_)
            refine x0 (k := ?_)
            refine x0 (k := ?_)
            refine v0 (k := ?_)
            refine v0 (k := ?_)
            refine x0 (k := ?_)
            refine x0 (k := ?_)
            refine x0 (k := ?_)
            refine v0 (k := ?_)
            refine v0 (k := ?_)
            refine nil0 ?_
            repeat refine gwp_seq ?_
            refine gwp_ret ?_
            repeat (first | refine gthen_ret ?_ | refine gblock_ret ?_ | refine gnoGoto_ret ?_)
            refine fin_ret ?_
            refine fp (hR := ?_)
            first
            | (rw [valid_badK hz (by simp only [badKW]; simp [*]; done)]; rfl)
            | (rw [valid_badR hw (by simp only [badRW]; simp [*]; done)]; rfl)
            | (rw [valid_end ha hr]
               simp only [PRes.at, GRes.ok.injEq, G.p.injEq, P.bool.injEq, and_true]
               first | (simp [*]; done) | (symm; simp; omega) | (simp; omega))
        · replace hb11 := hB.h {} hb11
          refine x0 (k := ?_)
          refine x0 (k := ?_)
          refine x0 (k := ?_)
          refine x0 (k := ?_)
          refine v0 (k := ?_)
          refine v0 (k := ?_)
          refine x0 (k := ?_)
          refine x0 (k := ?_)
          refine x0 (k := ?_)
          refine x0 (k := ?_)
          refine v0 (k := ?_)
          refine v0 (k := ?_)
          refine x0 (k := ?_)
          refine x0 (k := ?_)
          refine x0 (k := ?_)
          refine v0 (k := ?_)
          refine v0 (k := ?_)
          refine nil0 ?_
          repeat refine gwp_seq ?_
          refine gwp_ret ?_
          repeat (first | refine gthen_ret ?_ | refine gblock_ret ?_ | refine gnoGoto_ret ?_)
          refine fin_ret ?_
          refine fp (hR := ?_)
          first
          | (rw [valid_badK hz (by simp only [badKW]; simp [*]; done)]; rfl)
          | (rw [valid_badR hw (by simp only [badRW]; simp [*]; done)]; rfl)
          | (rw [valid_end ha hr]
             simp only [PRes.at, GRes.ok.injEq, G.p.injEq, P.bool.injEq, and_true]
             first | (simp [*]; done) | (symm; simp; omega) | (simp; omega))
      · replace hb10 := hB.h {} hb10
        refine x0 (k := ?_)
        refine x0 (k := ?_)
        refine x0 (k := ?_)
        refine v0 (k := ?_)
        refine v0 (k := ?_)
        refine x0 (k := ?_)
        refine x0 (k := ?_)
        refine x0 (k := ?_)
        refine x0 (k := ?_)
        refine v0 (k := ?_)
        refine v0 (k := ?_)
        refine x0 (k := ?_)
        refine x0 (k := ?_)
        refine x0 (k := ?_)
        refine x0 (k := ?_)
        refine v0 (k := ?_)
        refine v0 (k := ?_)
        refine x0 (k := ?_)
        refine x0 (k := ?_)
        refine x0 (k := ?_)
        refine v0 (k := ?_)
        refine v0 (k := ?_)
        refine nil0 ?_
        repeat refine gwp_seq ?_
        refine gwp_ret ?_
        repeat (first | refine gthen_ret ?_ | refine gblock_ret ?_ | refine gnoGoto_ret ?_)
        refine fin_ret ?_
        refine fp (hR := ?_)
        first
        | (rw [valid_badK hz (by simp only [badKW]; simp [*]; done)]; rfl)
        | (rw [valid_badR hw (by simp only [badRW]; simp [*]; done)]; rfl)
        | (rw [valid_end ha hr]
           simp only [PRes.at, GRes.ok.injEq, G.p.injEq, P.bool.injEq, and_true]
           first | (simp [*]; done) | (symm; simp; omega) | (simp; omega))
end Go.Proofs.Ytagdholenfkeaaa

/- What the statements leave out. -/
namespace Go.Proofs.Ytagdholenfkeaaa
open Go.Gh
set_option maxRecDepth 100000
set_option maxHeartbeats 4000000
structure kWm1 (c : Prop) : Prop where
  h : c := by (first | exact True.intro | (simp only [inI]; omega) | (simp [P.size, pr, pk, all_int, allOne_p, goods_p, allOne, goods, good, G.one, P.one, P.cells] <;> first | omega | assumption | simp_all))
/-- Is there far too much of something? -/
def greatB (c : Ch) (n : Int) : Bool := decide (60 < c.kn.length ∨ 60 < c.rs.length) || (decide (n < (c.rs.length : Int)) && c.valid)
theorem great_len {c : Ch} {n : Int} (h : greatB c n = false) : c.kn.length ≤ 60 ∧ c.rs.length ≤ 60 := by
  simp only [greatB, Bool.or_eq_false_iff, decide_eq_false_iff_not] at h
  omega
theorem ent13 : Enters Try.prog 13 := Enters.mk Try.func13 (by kernel_rfl) rfl
theorem l_great_t (c : Ch) (n : Int) (h : 60 < c.kn.length ∨ 60 < c.rs.length) : PSpec Try.prog 13 [.agg [.int .i64 c.pl, .int .i64 c.ps, .list (c.kn.map pk), .list (c.rs.map pr), .int .i64 c.ms], .int .i64 n] (.ok (.bool true)) := by
  refine pspec_of Try.func13 (rfl : Try.f13.body = some _) rfl ?_
  intro E A C hN hL
  replace hN : C.N = 24 := hN
  simp only [Gh.num, List.map_cons, List.map_nil, Nat.reduceAdd]
  repeat refine gwp_seq ?_
  refine gwp_region ?_
  refine n1 120 false (hc := kWm1.h {}) (k := ?_)
  refine v0 (k := ?_)
  refine nil0 ?_
  refine cl [1, 2] (k := ?_)
  repeat refine gwp_seq ?_
  refine gwp_region ?_
  refine v0 (k := ?_)
  refine v0 (k := ?_)
  refine v0 (k := ?_)
  refine v0 (k := ?_)
  refine v0 (k := ?_)
  refine v0 (k := ?_)
  refine v0 (k := ?_)
  refine v0 (k := ?_)
  refine rb 12 true (h := by (exact decide_eq_true (by omega))) (k := ?_)
  refine v0 (k := ?_)
  refine x0 (k := ?_)
  refine x0 (k := ?_)
  refine x0 (k := ?_)
  refine x0 (k := ?_)
  refine x0 (k := ?_)
  refine x0 (k := ?_)
  refine x1 (k := ?_)
  refine x1 (k := ?_)
  refine x0 (k := ?_)
  refine v0 (k := ?_)
  refine v0 (k := ?_)
  refine nil0 ?_
  repeat refine gwp_seq ?_
  refine gwp_ret ?_
  repeat (first | refine gthen_ret ?_ | refine gblock_ret ?_ | refine gnoGoto_ret ?_)
  refine fin_ret ?_
  refine fp (hR := ?_)
  rfl
theorem l_great_f (c : Ch) (n : Int) (h1 : c.kn.length ≤ 60) (h2 : c.rs.length ≤ 60) : PSpec Try.prog 13 [.agg [.int .i64 c.pl, .int .i64 c.ps, .list (c.kn.map pk), .list (c.rs.map pr), .int .i64 c.ms], .int .i64 n] (.ok (.bool (decide (n < (c.rs.length : Int)) && c.valid))) := by
  refine pspec_of Try.func13 (rfl : Try.f13.body = some _) rfl ?_
  intro E A C hN hL
  replace hN : C.N = 24 := hN
  simp only [Gh.num, List.map_cons, List.map_nil, Nat.reduceAdd]
  repeat refine gwp_seq ?_
  refine gwp_region ?_
  refine n1 120 false (hc := kWm1.h {}) (k := ?_)
  refine v0 (k := ?_)
  refine nil0 ?_
  refine cl [1, 2] (k := ?_)
  repeat refine gwp_seq ?_
  refine gwp_region ?_
  refine v0 (k := ?_)
  refine v0 (k := ?_)
  refine v0 (k := ?_)
  refine v0 (k := ?_)
  refine v0 (k := ?_)
  refine v0 (k := ?_)
  refine v0 (k := ?_)
  refine v0 (k := ?_)
  refine rb 12 false (h := by (exact decide_eq_false (by omega))) (k := ?_)
  refine v0 (k := ?_)
  refine w0 (k := ?_)
  refine w0 (k := ?_)
  refine w0 (k := ?_)
  refine w0 (k := ?_)
  refine w0 (k := ?_)
  refine w0 (k := ?_)
  refine b0 (k1 := fun hb1 => ?_) (k0 := fun hb1 => ?_)
  · replace hb1 := hB.h {} hb1
    refine w0 (k := ?_)
    refine pcw (spec := r_chain c (by omega) (by omega)) (hent := ent35) (k := ?_)
    refine w0 (k := ?_)
    refine v0 (k := ?_)
    refine v0 (k := ?_)
    refine nil0 ?_
    repeat refine gwp_seq ?_
    refine gwp_ret ?_
    repeat (first | refine gthen_ret ?_ | refine gblock_ret ?_ | refine gnoGoto_ret ?_)
    refine fin_ret ?_
    refine fp (hR := ?_)
    first
    | rfl
    | (rw [decide_eq_false (show ¬ n < (c.rs.length : Int) by omega)]; rfl)
    | (rw [decide_eq_true (show n < (c.rs.length : Int) by omega)]; rfl)
  · replace hb1 := hB.h {} hb1
    refine x0 (k := ?_)
    refine x0 (k := ?_)
    refine w0 (k := ?_)
    refine v0 (k := ?_)
    refine v0 (k := ?_)
    refine nil0 ?_
    repeat refine gwp_seq ?_
    refine gwp_ret ?_
    repeat (first | refine gthen_ret ?_ | refine gblock_ret ?_ | refine gnoGoto_ret ?_)
    refine fin_ret ?_
    refine fp (hR := ?_)
    first
    | rfl
    | (rw [decide_eq_false (show ¬ n < (c.rs.length : Int) by omega)]; rfl)
    | (rw [decide_eq_true (show n < (c.rs.length : Int) by omega)]; rfl)
theorem l_great (c : Ch) (n : Int) : PSpec Try.prog 13 [.agg [.int .i64 c.pl, .int .i64 c.ps, .list (c.kn.map pk), .list (c.rs.map pr), .int .i64 c.ms], .int .i64 n] (.ok (.bool (greatB c n))) := by
  by_cases h : 60 < c.kn.length ∨ 60 < c.rs.length
  · rw [greatB, decide_eq_true h]; exact l_great_t c n h
  · rw [greatB, decide_eq_false h]; exact l_great_f c n (by omega) (by omega)
end Go.Proofs.Ytagdholenfkeaaa

/- What the program says of chains that are valid, for plates and persons that there are. -/
namespace Go.Proofs.Ytagdholenfkeaaa
open Go.Gh
set_option maxRecDepth 100000
set_option maxHeartbeats 4000000
theorem w_where_t (c : Ch) (hv : c.valid = true) (p : Nat) (hp : (p : Int) < c.pl) (hc : leastC c ≤ c.ms) : PSpec Try.prog 24 [.agg [.int .i64 c.pl, .int .i64 c.ps, .list (c.kn.map pk), .list (c.rs.map pr), .int .i64 c.ms], .int .i64 (p : Nat)] (.ok (.tuple [.int .i64 (whereC c (p : Nat) : Nat), .int .i64 0])) := fun E A => p_where_t c hv p (by simp only [inQ]; rw [decide_eq_true (by omega), decide_eq_true (by omega)]; rfl) hc
theorem w_where_c (c : Ch) (hv : c.valid = true) (p : Nat) (hp : (p : Int) < c.pl) (hc : ¬ leastC c ≤ c.ms) : PSpec Try.prog 24 [.agg [.int .i64 c.pl, .int .i64 c.ps, .list (c.kn.map pk), .list (c.rs.map pr), .int .i64 c.ms], .int .i64 (p : Nat)] (.ok (.tuple [.int .i64 0, .int .i64 10])) := fun E A => p_where_c c hv p (by simp only [inQ]; rw [decide_eq_true (by omega), decide_eq_true (by omega)]; rfl) hc
theorem w_hands_t (c : Ch) (hv : c.valid = true) (p : Nat) (hp : (p : Int) < c.pl) (hc : leastC c ≤ c.ms) : PSpec Try.prog 26 [.agg [.int .i64 c.pl, .int .i64 c.ps, .list (c.kn.map pk), .list (c.rs.map pr), .int .i64 c.ms], .int .i64 (p : Nat)] (.ok (.tuple [.int .i64 (setN (surQ c (p : Nat)) c.ps.toNat : Nat), .int .i64 (setN (canQ c (p : Nat)) c.ps.toNat : Nat), .int .i64 0])) := fun E A => p_hands_t c hv p (by simp only [inQ]; rw [decide_eq_true (by omega), decide_eq_true (by omega)]; rfl) hc
theorem w_hands_c (c : Ch) (hv : c.valid = true) (p : Nat) (hp : (p : Int) < c.pl) (hc : ¬ leastC c ≤ c.ms) : PSpec Try.prog 26 [.agg [.int .i64 c.pl, .int .i64 c.ps, .list (c.kn.map pk), .list (c.rs.map pr), .int .i64 c.ms], .int .i64 (p : Nat)] (.ok (.tuple [.int .i64 0, .int .i64 0, .int .i64 10])) := fun E A => p_hands_c c hv p (by simp only [inQ]; rw [decide_eq_true (by omega), decide_eq_true (by omega)]; rfl) hc
theorem w_holds_t (c : Ch) (hv : c.valid = true) (u : Nat) (hu : u < c.ps.toNat) (hc : leastC c ≤ c.ms) : PSpec Try.prog 28 [.agg [.int .i64 c.pl, .int .i64 c.ps, .list (c.kn.map pk), .list (c.rs.map pr), .int .i64 c.ms], .int .i64 (u : Nat)] (.ok (.tuple [.int .i64 (sureH c u c.pl.toNat : Nat), .int .i64 (canH c u c.pl.toNat : Nat), .int .i64 0])) := fun E A => p_holds_t c hv u (by simp only [inQ]; rw [decide_eq_true (by omega), decide_eq_true (by omega)]; rfl) (by have := valid_num hv; omega) hc
theorem w_holds_c (c : Ch) (hv : c.valid = true) (u : Nat) (hu : u < c.ps.toNat) (hc : ¬ leastC c ≤ c.ms) : PSpec Try.prog 28 [.agg [.int .i64 c.pl, .int .i64 c.ps, .list (c.kn.map pk), .list (c.rs.map pr), .int .i64 c.ms], .int .i64 (u : Nat)] (.ok (.tuple [.int .i64 0, .int .i64 0, .int .i64 10])) := fun E A => p_holds_c c hv u (by simp only [inQ]; rw [decide_eq_true (by omega), decide_eq_true (by omega)]; rfl) hc
theorem w_least_t (c : Ch) (hv : c.valid = true) (hc : leastC c < 1048576) : PSpec Try.prog 21 [.agg [.int .i64 c.pl, .int .i64 c.ps, .list (c.kn.map pk), .list (c.rs.map pr), .int .i64 c.ms]] (.ok (.tuple [.int .i64 (leastC c), .int .i64 0])) := fun E A => p_least_t c hv hc
theorem w_least_c (c : Ch) (hv : c.valid = true) (hc : ¬ leastC c < 1048576) : PSpec Try.prog 21 [.agg [.int .i64 c.pl, .int .i64 c.ps, .list (c.kn.map pk), .list (c.rs.map pr), .int .i64 c.ms]] (.ok (.tuple [.int .i64 0, .int .i64 10])) := fun E A => p_least_c c hv hc
theorem w_holder (c : Ch) (hv : c.valid = true) (p : Nat) (hp : (p : Int) < c.pl) (n : Nat) (hn2 : n ≤ c.rs.length) : PSpec Try.prog 15 [.agg [.int .i64 c.pl, .int .i64 c.ps, .list (c.kn.map pk), .list (c.rs.map pr), .int .i64 c.ms], .int .i64 (p : Nat), .int .i64 (n : Nat)] (.ok (.tuple [.int .i64 (holN (p : Nat) c.rs n), .int .i64 0])) := fun E A => p_holder_t c hv p n (by simp only [holdQ, inQ]; rw [decide_eq_true (by omega), decide_eq_true (by omega), decide_eq_true (by omega), decide_eq_true (by omega)]; rfl)
theorem w_break (c : Ch) (hv : c.valid = true) (p : Nat) (hp : (p : Int) < c.pl) : PSpec Try.prog 17 [.agg [.int .i64 c.pl, .int .i64 c.ps, .list (c.kn.map pk), .list (c.rs.map pr), .int .i64 c.ms], .int .i64 (p : Nat)] (.ok (.tuple [.int .i64 (brkV c (p : Nat)).1, .int .i64 (brkV c (p : Nat)).2])) := fun E A => p_break_t c hv p (by simp only [inQ]; rw [decide_eq_true (by omega), decide_eq_true (by omega)]; rfl)
theorem w_drop (c : Ch) (hv : c.valid = true) : PSpec Try.prog 30 [.agg [.int .i64 c.pl, .int .i64 c.ps, .list (c.kn.map pk), .list (c.rs.map pr), .int .i64 c.ms]] (.ok (.tuple [.int .i64 (dropV c : Nat), .int .i64 0])) := fun E A => p_drop_t c hv
theorem great_val {c : Ch} {n : Int} (h : greatB c n = false) (hv : c.valid = true) : (c.rs.length : Int) ≤ n := by
  simp only [greatB, hv, Bool.and_true, Bool.or_eq_false_iff, decide_eq_false_iff_not] at h
  omega
theorem tmod_nat {b : Nat} {m : Int} (h : 1 ≤ m ∧ m ≤ 8) : ∃ u : Nat, (b : Int).tmod m = (u : Int) ∧ u < m.toNat ∧ u = b % m.toNat := by
  refine ⟨b % m.toNat, ?_, Nat.mod_lt _ (by omega), rfl⟩
  conv => lhs; rw [show m = ((m.toNat : Nat) : Int) by omega]
  exact (Int.ofNat_tmod b m.toNat).symm
theorem shr_b (w l : Nat) (hl : l ≤ 60) : (w : Int).fdiv (2 ^ min l IntKind.i64.bits) = ((w / 2 ^ l : Nat) : Int) := shr_i w l hl
theorem shr_z {w l : Nat} (hl : l ≤ 60) (h : w < 2 ^ l) : (w : Int).fdiv (2 ^ min l IntKind.i64.bits) = 0 := by rw [shr_b w l hl, Nat.div_eq_of_lt h]; rfl
theorem shl_b (n : Nat) (h : n ≤ 40) : IntKind.i64.wrap (1 * 2 ^ min n IntKind.i64.bits) = ((2 ^ n : Nat) : Int) := shl1_i64 n h
theorem beq_b (b : Bool) : (b == b) = true := by cases b <;> rfl
/-- A bit. -/
def bitN (w l : Nat) : Int := ((w / 2 ^ l % 2 : Nat) : Int)
theorem and_b (w l : Nat) (hw : w < 2 ^ 62) : bitop .and .i64 ((w / 2 ^ l : Nat) : Int) 1 = bitN w l := and1_i _ (Nat.lt_of_le_of_lt (Nat.div_le_self _ _) hw)
theorem bitN_t {w l : Nat} (h : w.testBit l = true) : bitN w l = 1 := by rw [bitN, bit_one.2 h]; rfl
theorem bitN_f {w l : Nat} (h : w.testBit l = false) : bitN w l = 0 := by rw [bitN, bit_zero.2 h]; rfl
theorem bitN_same {w v l m : Nat} (h : w.testBit l = v.testBit m) : bitN w l = bitN v m := by
  cases e : v.testBit m with
  | true => rw [bitN_t (h.trans e), bitN_t e]
  | false => rw [bitN_f (h.trans e), bitN_f e]
end Go.Proofs.Ytagdholenfkeaaa

/- Some of the records; the fewest that must be wrong. -/
namespace Go.Proofs.Ytagdholenfkeaaa
open Go.Gh
/-- The records of a set. -/
def prs (set : Nat) (rs : List Rc) : Nat → List Rc
  | 0 => []
  | k + 1 => match rs[k]? with
    | some r => if set.testBit k = true then prs set rs k ++ [r] else prs set rs k
    | none => prs set rs k
theorem prs_next {set : Nat} {rs : List Rc} {k : Nat} {r : Rc} (h : rs[k]? = some r) (hb : set.testBit k = true) : prs set rs (k + 1) = prs set rs k ++ [r] := by simp only [prs, h]; rw [if_pos hb]
theorem prs_skip {set : Nat} {rs : List Rc} {k : Nat} {r : Rc} (h : rs[k]? = some r) (hb : set.testBit k = false) : prs set rs (k + 1) = prs set rs k := by simp only [prs, h]; rw [if_neg (by simp [hb])]
theorem prs_len {set : Nat} {rs : List Rc} : ∀ k, (prs set rs k).length ≤ k
  | 0 => by simp [prs]
  | k + 1 => by
    have := prs_len (set := set) (rs := rs) k
    simp only [prs]; split
    · split <;> simp <;> omega
    · omega
theorem prs_mem {set : Nat} {rs : List Rc} : ∀ k, ∀ r ∈ prs set rs k, r ∈ rs
  | 0, r, h => by simp [prs] at h
  | k + 1, r, h => by
    simp only [prs] at h
    split at h
    · rename_i r' hr
      split at h
      · rcases List.mem_append.1 h with h | h
        · exact prs_mem k r h
        · simp at h; subst h; exact List.mem_of_getElem? hr
      · exact prs_mem k r h
    · exact prs_mem k r h
def Ch.part (c : Ch) (set : Nat) : Ch := { c with rs := prs set c.rs c.rs.length }
/-- From holder to holder, record by record. -/
def totR (f : Mx) (h : Nat) : List Rc → Int
  | [] => 0
  | r :: l => f h r.f.toNat + totR f r.t.toNat l
theorem tot_R (f : Mx) : ∀ (l : List (Nat × Rc)) (h : Int), totV f (toL h l) = totR f h.toNat (l.map (·.2))
  | [], h => rfl
  | e :: l, h => by
    have := tot_R f l e.2.t
    simp only [toL, totV, leastV, List.map_cons, totR]
    rw [this]
theorem steps_R (f : Mx) (l : List (Nat × Rc)) : totV f (stepsL l) = totR f 0 (l.map (·.2)) := by
  rw [stepsL, totV_snoc, tot_R]; simp [leastV]
theorem part_sel {p : Int} {set : Nat} {rs : List Rc} : ∀ k, (selN p (allS (prs set rs k).length) (prs set rs k) (prs set rs k).length).map (·.2) = (selN p set rs k).map (·.2)
  | 0 => rfl
  | k + 1 => by
    have ih := part_sel (p := p) (set := set) (rs := rs) k
    cases hr : rs[k]? with
    | none =>
      have h1 : prs set rs (k + 1) = prs set rs k := by simp only [prs, hr]
      have h2 : selN p set rs (k + 1) = selN p set rs k := by simp only [selN, hr]
      rw [h1, h2, ih]
    | some r =>
      cases hb : set.testBit k with
      | false => rw [prs_skip hr hb, sel_skip2 hr hb, ih]
      | true =>
        rw [prs_next hr hb, sel_snoc]
        by_cases hp : r.p = p
        · rw [if_pos hp, sel_next hr hp hb, List.map_append, List.map_append, ih]; rfl
        · rw [if_neg hp, sel_skip1 hr hp, ih]
theorem part_all (f : Mx) (c : Ch) (set : Nat) : ∀ k, allV f (c.part set).rs (allS (c.part set).rs.length) k = allV f c.rs set k
  | 0 => rfl
  | k + 1 => by
    simp only [allV]
    rw [part_all f c set k, steps_R, steps_R]
    have := part_sel (p := (k : Nat)) (set := set) (rs := c.rs) c.rs.length
    simp only [Ch.part]
    rw [this]
theorem part_least (c : Ch) (set : Nat) : leastC (c.part set) = allV (D (eF c.kn (-1))) c.rs set c.pl.toNat := part_all (D (eF c.kn (-1))) c set c.pl.toNat
theorem part_valid {c : Ch} (hv : c.valid = true) (set : Nat) : (c.part set).valid = true := by
  have hn := valid_num hv
  have hl := prs_len (set := set) (rs := c.rs) c.rs.length
  have key : ∀ l : List Rc, ({ c with rs := l } : Ch).valid = (c.head && decide ((c.kn.length : Int) ≤ 28) && decide ((l.length : Int) ≤ 12) && !c.kn.any (badK c.ps) && !l.any (badR c.pl c.ps)) := fun l => rfl
  have h0 := key c.rs
  rw [show ({ c with rs := c.rs } : Ch) = c from rfl, hv] at h0
  have h1 := h0.symm
  rw [decide_eq_true (show ((c.rs.length : Nat) : Int) ≤ 12 by omega)] at h1
  simp only [Bool.and_eq_true, Bool.not_eq_true', Bool.and_true] at h1
  have h2 : (prs set c.rs c.rs.length).any (badR c.pl c.ps) = false := by
    cases e : (prs set c.rs c.rs.length).any (badR c.pl c.ps) with
    | false => rfl
    | true =>
      obtain ⟨r, hr, hb⟩ := List.any_eq_true.1 e
      have := List.any_eq_true.2 ⟨r, prs_mem _ r hr, hb⟩
      rw [h1.2] at this; cases this
  rw [Ch.part, key, h2, decide_eq_true (show (((prs set c.rs c.rs.length).length : Nat) : Int) ≤ 12 by omega)]
  simp only [h1.1.1.1, h1.1.1.2, h1.1.2, h1.2, Bool.and_true, Bool.not_false, Bool.and_self]
/-- Is there a truth with the records of a set? -/
def canD (c : Ch) (set : Nat) : Bool := decide (allV (D (eF c.kn (-1))) c.rs set c.pl.toNat ≤ c.ms)
theorem canD_ok (c : Ch) (s : Nat) : canD c (restS c.rs.length s) = okD c s := rfl
theorem sel_none {p : Int} {rs : List Rc} : ∀ k, selN p 0 rs k = []
  | 0 => rfl
  | k + 1 => by
    simp only [selN]
    split
    · rw [if_neg (by simp), sel_none k]
    · exact sel_none k
theorem all_none (f : Mx) (rs : List Rc) : ∀ k, allV f rs 0 k = 0
  | 0 => rfl
  | k + 1 => by rw [allV, all_none f rs k, sel_none]; rfl
theorem canD_zero {c : Ch} (hv : c.valid = true) : canD c 0 = true := by
  have hn := valid_num hv
  rw [canD, all_none]; exact decide_eq_true (by omega)
theorem rest_all (n : Nat) (hn : n ≤ 12) : restS n (allS n) = 0 := by
  have hp := Nat.two_pow_pos n
  have h12 : 2 ^ n ≤ 2 ^ 12 := Nat.pow_le_pow_right (by omega) hn
  simp only [restS, allS]
  apply Nat.eq_of_testBit_eq
  intro i
  rw [Nat.testBit_and, Nat.testBit_two_pow_sub_one, show 2 ^ 64 - 1 - (2 ^ n - 1) = 2 ^ 64 - ((2 ^ n - 1) + 1) by omega, Nat.testBit_two_pow_sub_succ (by omega), Nat.testBit_two_pow_sub_one, Nat.zero_testBit]
  cases decide (i < n) <;> simp
theorem rest_zero (n : Nat) (hn : n ≤ 12) : restS n 0 = allS n := by
  have hp := Nat.two_pow_pos n
  have h12 : 2 ^ n ≤ 2 ^ 12 := Nat.pow_le_pow_right (by omega) hn
  simp only [restS, allS]
  apply Nat.eq_of_testBit_eq
  intro i
  rw [Nat.testBit_and, Nat.testBit_two_pow_sub_one, show 2 ^ 64 - 1 - 0 = 2 ^ 64 - 1 by omega, Nat.testBit_two_pow_sub_one]
  by_cases hi : i < n
  · rw [decide_eq_true hi, decide_eq_true (show i < 64 by omega)]; rfl
  · rw [decide_eq_false hi]; rfl
theorem least_nat {p : Nat → Bool} : ∀ n, (∃ k, k < n ∧ p k = true) → ∃ k, k < n ∧ p k = true ∧ ∀ i, i < k → p i = false
  | 0, ⟨k, hk, _⟩ => by omega
  | n + 1, ⟨k, hk, hp⟩ => by
    by_cases h : ∃ k, k < n ∧ p k = true
    · obtain ⟨k, h1, h2, h3⟩ := least_nat n h
      exact ⟨k, by omega, h2, h3⟩
    · refine ⟨k, hk, hp, fun i hi => ?_⟩
      cases e : p i with
      | false => rfl
      | true => exact absurd ⟨i, by omega, e⟩ h
theorem popN_le : ∀ n, n ≤ 12 → ∀ x, x < 2 ^ n → pop x ≤ n
  | 0, _, x, hx => by
    obtain rfl : x = 0 := by simpa using hx
    decide
  | n + 1, h, x, hx => by
    have h12 : 2 ^ (n + 1) ≤ 2 ^ 12 := Nat.pow_le_pow_right (by omega) h
    have hs : 2 ^ (n + 1) = 2 * 2 ^ n := by rw [Nat.pow_succ]; omega
    have h1 : pop x = x % 2 + pop (x / 2) := by
      show x % 2 + popF 63 (x / 2) = x % 2 + popF 64 (x / 2)
      rw [show popF 64 (x / 2) = popF 63 (x / 2) from pop_fuel 63 (x / 2) (by omega)]
    have := popN_le n (by omega) (x / 2) (by omega)
    omega
where
  pop_fuel : ∀ (f q : Nat), q < 2 ^ f → popF (f + 1) q = popF f q
    | 0, q, h => by
      have : q = 0 := by simpa using h
      subst this; rfl
    | f + 1, q, h => by
      rw [popF, pop_fuel f (q / 2) (by rw [Nat.pow_succ] at h; omega), popF]
theorem drop_min {c : Ch} (hv : c.valid = true) : dropV c ≤ allS c.rs.length ∧ okD c (dropV c) = true ∧ ∀ s, s ≤ allS c.rs.length → okD c s = true → pop (dropV c) < pop s ∨ (pop (dropV c) = pop s ∧ dropV c ≤ s) := by
  have hn := valid_num hv
  have hp2 := Nat.two_pow_pos c.rs.length
  have hall : okD c (allS c.rs.length) = true := by rw [← canD_ok, rest_all _ (by omega)]; exact canD_zero hv
  have hpl := popN_le c.rs.length (by omega) (allS c.rs.length) (by simp only [allS]; omega)
  obtain ⟨m, h1, h2, h3⟩ := least_nat (p := fun m => (List.range (allS c.rs.length + 1)).any fun s => isD c m s) (c.rs.length + 1) ⟨pop (allS c.rs.length), by omega, List.any_eq_true.2 ⟨allS c.rs.length, List.mem_range.2 (by omega), by simp only [isD]; rw [hall, Bool.and_true]; exact decide_eq_true trivial⟩⟩
  obtain ⟨s0, hs0, hd0⟩ := List.any_eq_true.1 h2
  obtain ⟨s, g1, g2, g3⟩ := least_nat (p := isD c m) (allS c.rs.length + 1) ⟨s0, List.mem_range.1 hs0, hd0⟩
  have h4 : ∀ i, i < m → ∀ x, x < allS c.rs.length + 1 → isD c i x = false := fun i hi x hx => by
    have := h3 i hi
    rw [List.any_eq_false] at this
    have := this x (List.mem_range.2 hx)
    simpa using this
  have hdrop := dropV_some h1 g1 h4 g3 g2
  have g2' := g2
  simp only [isD, Bool.and_eq_true, decide_eq_true_eq] at g2'
  rw [hdrop]
  refine ⟨by omega, g2'.2, fun x hx ho => ?_⟩
  by_cases e1 : pop x < m
  · have := h4 (pop x) e1 x (by omega)
    simp [isD, ho] at this
  · by_cases e2 : pop x = m
    · refine .inr ⟨by omega, ?_⟩
      by_cases e3 : x < s
      · have := g3 x e3
        simp only [isD, ho, Bool.and_true] at this
        exact absurd e2 (of_decide_eq_false this)
      · omega
    · exact .inl (by omega)
theorem drop_zero {c : Ch} (hv : c.valid = true) : dropV c = 0 ↔ canD c (allS c.rs.length) = true := by
  have hn := valid_num hv
  have h := drop_min hv
  have e := canD_ok c 0
  rw [rest_zero _ (by omega)] at e
  rw [e]
  constructor
  · intro h0; rw [← h0]; exact h.2.1
  · intro h0
    have := h.2.2 0 (by omega) h0
    have hp0 : pop 0 = 0 := by decide
    omega
theorem bitop_andNot_i64 (x y : Nat) (hx : x < 2 ^ 62) (hy : y < 2 ^ 62) : bitop .andNot .i64 (x : Int) (y : Int) = ((x &&& (2 ^ 64 - 1 - y) : Nat) : Int) := by
  have e1 : (BitVec.ofInt 64 (x : Int)).toNat = x := by rw [BitVec.toNat_ofInt]; omega
  have e2 : (BitVec.ofInt 64 (y : Int)).toNat = y := by rw [BitVec.toNat_ofInt]; omega
  have h : (x &&& (2 ^ 64 - 1 - y)) < 2 ^ 62 := Nat.lt_of_le_of_lt Nat.and_le_left hx
  show IntKind.i64.wrap ((BitVec.ofInt 64 (x : Int) &&& ~~~BitVec.ofInt 64 (y : Int)).toNat : Int) = _
  rw [BitVec.toNat_and, BitVec.toNat_not, e1, e2]
  exact IntWalk.i64_in ((x &&& (2 ^ 64 - 1 - y) : Nat) : Int) (by omega)
theorem bitop_and_i64 (x y : Nat) (hx : x < 2 ^ 62) (hy : y < 2 ^ 62) : bitop .and .i64 (x : Int) (y : Int) = ((x &&& y : Nat) : Int) := by
  have e1 : (BitVec.ofInt 64 (x : Int)).toNat = x := by rw [BitVec.toNat_ofInt]; omega
  have e2 : (BitVec.ofInt 64 (y : Int)).toNat = y := by rw [BitVec.toNat_ofInt]; omega
  have h : (x &&& y) < 2 ^ 62 := Nat.lt_of_le_of_lt Nat.and_le_left hx
  show IntKind.i64.wrap ((BitVec.ofInt 64 (x : Int) &&& BitVec.ofInt 64 (y : Int)).toNat : Int) = _
  rw [BitVec.toNat_and, e1, e2]
  exact IntWalk.i64_in ((x &&& y : Nat) : Int) (by omega)
end Go.Proofs.Ytagdholenfkeaaa

/- The records of a plate as a list; what a plate takes. -/
namespace Go.Proofs.Ytagdholenfkeaaa
open Go.Gh
def plR (rs : List Rc) (q : Int) : List Rc := rs.filter fun r => decide (r.p = q)
theorem take_snoc {α : Type} {l : List α} {k : Nat} {x : α} (h : l[k]? = some x) : l.take (k + 1) = l.take k ++ [x] := by rw [List.take_add_one, h]; rfl
theorem filt_next {α : Type} {l : List α} {k : Nat} {x : α} {q : α → Bool} (h : l[k]? = some x) (hq : q x = true) : (l.take (k + 1)).filter q = (l.take k).filter q ++ [x] := by
  rw [take_snoc h, List.filter_append]; simp [hq]
theorem filt_skip {α : Type} {l : List α} {k : Nat} {x : α} {q : α → Bool} (h : l[k]? = some x) (hq : q x = false) : (l.take (k + 1)).filter q = (l.take k).filter q := by
  rw [take_snoc h, List.filter_append]; simp [hq]
theorem sel_filt {p : Int} {rs : List Rc} : ∀ k, k ≤ rs.length → (selN p (allS rs.length) rs k).map (·.2) = (rs.take k).filter fun r => decide (r.p = p)
  | 0, _ => rfl
  | k + 1, hk => by
    obtain ⟨r, hr⟩ := getE (l := rs) (k := k) (by omega)
    have ih := sel_filt (p := p) (rs := rs) k (by omega)
    by_cases hp : r.p = p
    · rw [sel_next hr hp (all_bit (by omega)), List.map_append, ih, filt_next hr (decide_eq_true hp)]; rfl
    · rw [sel_skip1 hr hp, ih, filt_skip hr (decide_eq_false hp)]
theorem sel_plR (p : Int) (rs : List Rc) : (selN p (allS rs.length) rs rs.length).map (·.2) = plR rs p := by
  rw [sel_filt rs.length (Nat.le_refl _), List.take_length]; rfl
theorem tot_plR (f : Mx) (p : Int) (rs : List Rc) : totV f (stepsL (selN p (allS rs.length) rs rs.length)) = totR f 0 (plR rs p) := by rw [steps_R, sel_plR]
/-- What the first plates take. -/
def sumR (f : Mx) (rs : List Rc) : Nat → Int
  | 0 => 0
  | k + 1 => sumR f rs k + totR f 0 (plR rs (k : Nat))
theorem all_sumR (f : Mx) (rs : List Rc) : ∀ k, allV f rs (allS rs.length) k = sumR f rs k
  | 0 => rfl
  | k + 1 => by rw [allV, sumR, all_sumR f rs k, tot_plR]
theorem least_sumR (c : Ch) : leastC c = sumR (D (eF c.kn (-1))) c.rs c.pl.toNat := all_sumR _ _ _
theorem totR_nn {f : Mx} (hf : MOk f) : ∀ (l : List Rc) (h : Nat), 0 ≤ totR f h l
  | [], _ => by simp [totR]
  | r :: l, h => by have := totR_nn hf l r.t.toNat; have := hf.nn h r.f.toNat; simp only [totR]; omega
theorem sumR_nn {f : Mx} (hf : MOk f) (rs : List Rc) : ∀ k, 0 ≤ sumR f rs k
  | 0 => by simp [sumR]
  | k + 1 => by have := sumR_nn hf rs k; have := totR_nn hf (plR rs (k : Nat)) 0; simp only [sumR]; omega
theorem plR_own (rs : List Rc) (x q : Int) : plR (rs.filter fun r => decide (r.p = x)) q = if q = x then plR rs x else [] := by
  simp only [plR, List.filter_filter]
  split
  · rename_i h; subst h; congr 1; funext r; simp
  · rename_i h
    rw [List.filter_eq_nil_iff]
    intro r _
    simp only [Bool.and_eq_true, decide_eq_true_eq, not_and]
    intro h1 h2; exact h (h1.symm.trans h2)
theorem plR_oth (rs : List Rc) (x q : Int) : plR (rs.filter fun r => !decide (r.p = x)) q = if q = x then [] else plR rs q := by
  simp only [plR, List.filter_filter]
  split
  · rename_i h
    subst h
    rw [List.filter_eq_nil_iff]
    intro r _
    simp
  · rename_i h
    congr 1
    funext r
    by_cases h1 : r.p = q
    · rw [decide_eq_true h1, decide_eq_false (fun e => h (h1.symm.trans e))]; rfl
    · rw [decide_eq_false h1]; rfl
theorem sum_own (f : Mx) (rs : List Rc) (p : Nat) : ∀ k, sumR f (rs.filter fun r => decide (r.p = (p : Nat))) k = if p < k then totR f 0 (plR rs (p : Nat)) else 0
  | 0 => rfl
  | k + 1 => by
    rw [sumR, sum_own f rs p k, plR_own]
    by_cases e : k = p
    · subst e; rw [if_neg (by omega), if_pos rfl, if_pos (by omega)]; omega
    · rw [if_neg (show ¬ ((k : Nat) : Int) = (p : Nat) by omega)]
      by_cases h : p < k
      · rw [if_pos h, if_pos (by omega)]; simp [totR]
      · rw [if_neg h, if_neg (by omega)]; simp [totR]
theorem sum_oth (f : Mx) (rs : List Rc) (p : Nat) : ∀ k, sumR f (rs.filter fun r => !decide (r.p = (p : Nat))) k + (if p < k then totR f 0 (plR rs (p : Nat)) else 0) = sumR f rs k
  | 0 => rfl
  | k + 1 => by
    have ih := sum_oth f rs p k
    rw [sumR, sumR, plR_oth]
    by_cases e : k = p
    · subst e
      rw [if_pos rfl, if_pos (by omega)]
      rw [if_neg (by omega)] at ih
      simp only [totR]; omega
    · rw [if_neg (show ¬ ((k : Nat) : Int) = (p : Nat) by omega)]
      by_cases h : p < k
      · rw [if_pos (by omega)]; rw [if_pos h] at ih; omega
      · rw [if_neg (by omega)]; rw [if_neg h] at ih; omega
/-- Validity, part by part. -/
theorem valid_iff {c : Ch} : c.valid = true ↔ (c.head = true ∧ c.kn.length ≤ 28 ∧ c.rs.length ≤ 12) ∧ (∀ k ∈ c.kn, badK c.ps k = false) ∧ ∀ r ∈ c.rs, badR c.pl c.ps r = false := by
  have key : c.valid = (c.head && decide ((c.kn.length : Int) ≤ 28) && decide ((c.rs.length : Int) ≤ 12) && !c.kn.any (badK c.ps) && !c.rs.any (badR c.pl c.ps)) := rfl
  rw [key]
  simp only [Bool.and_eq_true, Bool.not_eq_true', decide_eq_true_eq, List.any_eq_false, Bool.not_eq_true]
  constructor
  · rintro ⟨⟨⟨⟨h1, h2⟩, h3⟩, h4⟩, h5⟩
    exact ⟨⟨h1, by omega, by omega⟩, h4, h5⟩
  · rintro ⟨⟨h1, h2, h3⟩, h4, h5⟩
    exact ⟨⟨⟨⟨h1, by omega⟩, by omega⟩, h4⟩, h5⟩
/-- Fewer pairs, fewer records. -/
theorem valid_sub {c : Ch} (hv : c.valid = true) {kn : List Kw} {rs : List Rc} (h1 : kn.length ≤ 28) (h2 : rs.length ≤ 12) (h3 : ∀ k ∈ kn, k ∈ c.kn) (h4 : ∀ r ∈ rs, r ∈ c.rs) : ({ c with kn := kn, rs := rs } : Ch).valid = true := by
  have h := valid_iff.1 hv
  exact valid_iff.2 ⟨⟨h.1.1, h1, h2⟩, fun k hk => h.2.1 k (h3 k hk), fun r hr => h.2.2 r (h4 r hr)⟩
theorem valid_filt {c : Ch} (hv : c.valid = true) (q : Kw → Bool) (s : Rc → Bool) : ({ c with kn := c.kn.filter q, rs := c.rs.filter s } : Ch).valid = true := by
  have hn := valid_num hv
  have a := List.length_filter_le q c.kn
  have b := List.length_filter_le s c.rs
  exact valid_sub hv (by omega) (by omega) (fun k hk => (List.mem_filter.1 hk).1) fun r hr => (List.mem_filter.1 hr).1
/-- Nobody knows a person. -/
theorem eF_less (l : List Kw) (u : Nat) : eF (l.filter fun k => !decide (k.a = (u : Nat)) && !decide (k.b = (u : Nat))) (-1) = eF l (u : Nat) := by
  funext i k
  simp only [eF]
  rw [decide_eq_false (show ¬ (i : Int) = -1 by omega), decide_eq_false (show ¬ (k : Int) = -1 by omega)]
  simp only [Bool.not_false, Bool.true_and, knowI, List.any_filter]
  rw [Bool.eq_iff_iff]
  simp only [List.any_eq_true, Bool.and_eq_true, Bool.not_eq_true', decide_eq_false_iff_not, knowQ, Bool.or_eq_true, decide_eq_true_eq]
  constructor
  · rintro ⟨x, hx, ⟨h1, h2⟩, h3⟩
    exact ⟨by omega, x, hx, h3⟩
  · rintro ⟨⟨h1, h2⟩, x, hx, h3⟩
    exact ⟨x, hx, by omega, h3⟩
end Go.Proofs.Ytagdholenfkeaaa

/- The document's states: what spreading leads to. No program in sight. -/
namespace Go.Proofs.Ytagdholenfkeaaa
def setS (s : Mx) (b k : Nat) (v : Int) : Mx := fun i j => if i = b ∧ j = k then v else s i j
/-- One pair of persons. -/
def rlx (e : Nat → Nat → Bool) (who a b : Nat) (s : Mx) : Mx :=
  if e a b = true then
    (if b = who then setS (setS s b 1 (min (s b 1) (s a 1 + 1))) b 1 (min (min (s b 1) (s a 1 + 1)) (s a 0 + 1))
     else setS (setS s b 1 (min (s b 1) (s a 1 + 1))) b 0 (min (s b 0) (s a 0 + 1)))
  else s
def rowS (e : Nat → Nat → Bool) (who a : Nat) (s : Mx) : Nat → Mx
  | 0 => s
  | n + 1 => rlx e who a n (rowS e who a s n)
def rndS (e : Nat → Nat → Bool) (who P : Nat) (s : Mx) : Nat → Mx
  | 0 => s
  | n + 1 => rowS e who n (rndS e who P s n) P
def sprS (e : Nat → Nat → Bool) (who P : Nat) (s : Mx) : Nat → Mx
  | 0 => s
  | n + 1 => rndS e who P (sprS e who P s n) P
section
variable {e : Nat → Nat → Bool} {who P : Nat}
theorem sprS_front (s : Mx) : ∀ n, sprS e who P s (n + 1) = sprS e who P (rndS e who P s P) n
  | 0 => rfl
  | n + 1 => by rw [sprS, sprS_front s n, sprS]
theorem rlx_le (a b : Nat) (s : Mx) (i k : Nat) : rlx e who a b s i k ≤ s i k := by
  unfold rlx
  split
  · split
    · simp only [setS]
      repeat' split
      all_goals first | omega | (rename_i h; rw [h.1, h.2]; omega)
    · simp only [setS]
      repeat' split
      all_goals first | omega | (rename_i h; rw [h.1, h.2]; omega)
  · omega
theorem rowS_le (a : Nat) (s : Mx) (i k : Nat) : ∀ n, rowS e who a s n i k ≤ s i k
  | 0 => Int.le_refl _
  | n + 1 => Int.le_trans (rlx_le _ _ _ _ _) (rowS_le a s i k n)
theorem rndS_le (s : Mx) (i k : Nat) : ∀ n, rndS e who P s n i k ≤ s i k
  | 0 => Int.le_refl _
  | n + 1 => Int.le_trans (rowS_le _ _ _ _ _) (rndS_le s i k n)
theorem sprS_le (s : Mx) (i k : Nat) : ∀ n, sprS e who P s n i k ≤ s i k
  | 0 => Int.le_refl _
  | n + 1 => Int.le_trans (rndS_le _ _ _ _) (sprS_le s i k n)
theorem sprS_more (s : Mx) (i k n : Nat) : ∀ m, sprS e who P s (n + m) i k ≤ sprS e who P s n i k
  | 0 => Int.le_refl _
  | m + 1 => Int.le_trans (rndS_le _ _ _ _) (sprS_more s i k n m)
/-- What no pair of persons makes less. -/
structure Fix (e : Nat → Nat → Bool) (who : Nat) (F : Mx) : Prop where
  one : ∀ a b, e a b = true → F b 1 ≤ F a 1 + 1
  two : ∀ a b, e a b = true → b = who → F b 1 ≤ F a 0 + 1
  non : ∀ a b, e a b = true → b ≠ who → F b 0 ≤ F a 0 + 1
def Ge (F s : Mx) : Prop := ∀ i k, F i k ≤ s i k
theorem Fix.rlx {F s : Mx} (h : Fix e who F) (g : Ge F s) (a b : Nat) : Ge F (rlx e who a b s) := fun i k => by
  unfold Ytagdholenfkeaaa.rlx
  have g1 := g a 1; have g0 := g a 0
  split
  · rename_i he
    have h1 := h.one a b he
    split
    · rename_i hw
      have h2 := h.two a b he hw
      have g3 := g b 1
      simp only [setS]
      repeat' split
      all_goals first | exact g i k | (rename_i hh; rw [hh.1, hh.2]; omega)
    · rename_i hw
      have h2 := h.non a b he hw
      have g3 := g b 1; have g4 := g b 0
      simp only [setS]
      repeat' split
      all_goals first | exact g i k | (rename_i hh; rw [hh.1, hh.2]; omega)
  · exact g i k
theorem Fix.row {F s : Mx} (h : Fix e who F) (g : Ge F s) (a : Nat) : ∀ n, Ge F (rowS e who a s n)
  | 0 => g
  | n + 1 => h.rlx (h.row g a n) a n
theorem Fix.rnd {F s : Mx} (h : Fix e who F) (g : Ge F s) : ∀ n, Ge F (rndS e who P s n)
  | 0 => g
  | n + 1 => h.row (h.rnd g n) n P
theorem Fix.spr {F s : Mx} (h : Fix e who F) (g : Ge F s) : ∀ n, Ge F (sprS e who P s n)
  | 0 => g
  | n + 1 => h.rnd (h.spr g n) P
/-- What a pair of persons leads to. -/
theorem rlx_at (s : Mx) {a b : Nat} (he : e a b = true) : rlx e who a b s b 1 ≤ s a 1 + 1 ∧ (b = who → rlx e who a b s b 1 ≤ s a 0 + 1) ∧ (b ≠ who → rlx e who a b s b 0 ≤ s a 0 + 1) := by
  unfold rlx
  rw [if_pos he]
  by_cases hw : b = who
  · rw [if_pos hw]
    simp only [setS, and_self, reduceIte]
    exact ⟨by omega, fun _ => by omega, fun h => absurd hw h⟩
  · rw [if_neg hw]
    refine ⟨?_, fun h => absurd h hw, fun _ => ?_⟩
    · simp [setS]; omega
    · simp [setS]; omega
theorem rowS_at (s : Mx) {a b : Nat} (he : e a b = true) : ∀ n, b < n → rowS e who a s n b 1 ≤ s a 1 + 1 ∧ (b = who → rowS e who a s n b 1 ≤ s a 0 + 1) ∧ (b ≠ who → rowS e who a s n b 0 ≤ s a 0 + 1)
  | n + 1, hb => by
    simp only [rowS]
    by_cases hn : b = n
    · subst hn
      obtain ⟨h1, h2, h3⟩ := rlx_at (who := who) (rowS e who a s b) he
      have g1 := rowS_le (e := e) (who := who) a s a 1 b
      have g0 := rowS_le (e := e) (who := who) a s a 0 b
      exact ⟨by omega, fun h => by have := h2 h; omega, fun h => by have := h3 h; omega⟩
    · obtain ⟨h1, h2, h3⟩ := rowS_at s he n (by omega)
      have g1 := rlx_le (e := e) (who := who) a n (rowS e who a s n) b 1
      have g0 := rlx_le (e := e) (who := who) a n (rowS e who a s n) b 0
      exact ⟨by omega, fun h => by have := h2 h; omega, fun h => by have := h3 h; omega⟩
theorem rndS_at (s : Mx) {a b : Nat} (he : e a b = true) (hb : b < P) : ∀ n, a < n → rndS e who P s n b 1 ≤ s a 1 + 1 ∧ (b = who → rndS e who P s n b 1 ≤ s a 0 + 1) ∧ (b ≠ who → rndS e who P s n b 0 ≤ s a 0 + 1)
  | n + 1, ha => by
    simp only [rndS]
    by_cases hn : a = n
    · subst hn
      obtain ⟨h1, h2, h3⟩ := rowS_at (who := who) (rndS e who P s a) he P hb
      have g1 := rndS_le (e := e) (who := who) (P := P) s a 1 a
      have g0 := rndS_le (e := e) (who := who) (P := P) s a 0 a
      exact ⟨by omega, fun h => by have := h2 h; omega, fun h => by have := h3 h; omega⟩
    · obtain ⟨h1, h2, h3⟩ := rndS_at s he hb n (by omega)
      have g1 := rowS_le (e := e) (who := who) n (rndS e who P s n) b 1 P
      have g0 := rowS_le (e := e) (who := who) n (rndS e who P s n) b 0 P
      exact ⟨by omega, fun h => by have := h2 h; omega, fun h => by have := h3 h; omega⟩
end
section
variable {e eb : Nat → Nat → Bool} {who P : Nat} (he : ∀ a b, e a b = true → a < P ∧ b < P) (hb : ∀ a b, eb a b = true ↔ e a b = true ∧ a ≠ who ∧ b ≠ who)
include he
theorem walk_one : ∀ (n : Nat) (s : Mx) (i x : Nat), Wk e n i x → sprS e who P s n x 1 ≤ s i 1 + n
  | 0, s, i, x, h => by have h : i = x := h; subst h; simp [sprS]
  | n + 1, s, i, x, ⟨j, hj, h⟩ => by
    have h1 := walk_one n (rndS e who P s P) j x h
    have h2 := (rndS_at (who := who) s hj (he i j hj).2 P (he i j hj).1).1
    rw [sprS_front]; omega
include hb
theorem walk_non : ∀ (n : Nat) (s : Mx) (i x : Nat), Wk eb n i x → sprS e who P s n x 0 ≤ s i 0 + n
  | 0, s, i, x, h => by have h : i = x := h; subst h; simp [sprS]
  | n + 1, s, i, x, ⟨j, hj, h⟩ => by
    have hj' := (hb i j).1 hj
    have h1 := walk_non n (rndS e who P s P) j x h
    have h2 := (rndS_at (who := who) s hj'.1 (he i j hj'.1).2 P (he i j hj'.1).1).2.2 hj'.2.2
    rw [sprS_front]; omega
theorem walk_two : ∀ (n m : Nat) (s : Mx) (i a x : Nat), Wk eb n i a → e a who = true → Wk e m who x → sprS e who P s (n + 1 + m) x 1 ≤ s i 0 + n + 1 + m
  | 0, m, s, i, a, x, h, ha, hm => by
    have h : i = a := h
    subst h
    have h1 := walk_one (who := who) he m (rndS e who P s P) who x hm
    have h2 := (rndS_at (who := who) s ha (he i who ha).2 P (he i who ha).1).2.1 rfl
    rw [show 0 + 1 + m = m + 1 by omega, sprS_front]; omega
  | n + 1, m, s, i, a, x, ⟨j, hj, h⟩, ha, hm => by
    have hj' := (hb i j).1 hj
    have h1 := walk_two n m (rndS e who P s P) j a x h ha hm
    have h2 := (rndS_at (who := who) s hj'.1 (he i j hj'.1).2 P (he i j hj'.1).1).2.2 hj'.2.2
    rw [show n + 1 + 1 + m = (n + 1 + m) + 1 by omega, sprS_front]; omega
omit he in
/-- A walk comes by a person, or not. -/
theorem first_hit : ∀ (n i x : Nat), i ≠ who → Wk e n i x → Wk eb n i x ∨ ∃ m m' a, m + 1 + m' = n ∧ Wk eb m i a ∧ e a who = true ∧ Wk e m' who x
  | 0, i, x, _, h => .inl h
  | n + 1, i, x, hi, ⟨j, hj, h⟩ => by
    by_cases hw : j = who
    · subst hw
      exact .inr ⟨0, n, i, by omega, rfl, hj, h⟩
    · have hij := (hb i j).2 ⟨hj, hi, hw⟩
      rcases first_hit n j x hw h with h1 | ⟨m, m', a, hn, h1, h2, h3⟩
      · exact .inl ⟨j, hij, h1⟩
      · exact .inr ⟨m + 1, m', a, by omega, ⟨j, hij, h1⟩, h2, h3⟩
/-- What a state with one person leads to. -/
def Fm (e eb : Nat → Nat → Bool) (who h : Nat) (A B : Int) : Mx := fun x k =>
  if k = 0 then min 1000 (A + D eb h x) else if k = 1 then min 1000 (min (B + D e h x) (A + D e h who + D e who x)) else 1000
def ini1 (h : Nat) (A B : Int) : Mx := fun x k => if x = h then (if k = 0 then A else if k = 1 then B else 1000) else 1000
theorem Fm_fix (hP : P ≤ 8) (hw : who < P) {h : Nat} (hh : h < P) {A B : Int} (hA : 0 ≤ A) (hA1 : h = who → A = 1000) : Fix e who (Fm e eb who h A B) := by
  have he8 : ∀ a b, e a b = true → a < 8 ∧ b < 8 := fun a b x => by have := he a b x; omega
  have hbe : ∀ a b, eb a b = true → a < 8 ∧ b < 8 := fun a b x => he8 a b ((hb a b).1 x).1
  refine ⟨fun a b x => ?_, fun a b x y => ?_, fun a b x y => ?_⟩
  · have h1 := D_tri e (he8 a b x).1 h b
    have h2 := D_edge x
    have h3 := D_tri e (he8 a b x).1 who b
    simp only [Fm, Nat.one_ne_zero, reduceIte]; omega
  · subst y
    have h1 := D_tri e (he8 a b x).1 h b
    have h2 := D_edge x
    have h3 := (D_ok e).zz b
    have h4 := D_mono (e := eb) he8 (fun i j q => ((hb i j).1 q).1) h a
    simp only [Fm, Nat.one_ne_zero, reduceIte]; omega
  · simp only [Fm, reduceIte]
    by_cases ha : a = who
    · subst ha
      by_cases h1 : h = a
      · have := hA1 h1; have := (D_ok eb).nn h a; omega
      · have : D eb h a = NEV := by
          by_cases hl : D eb h a < NEV
          · obtain ⟨n, _, hwk⟩ := D_sound hl
            cases n with
            | zero => exact absurd hwk h1
            | succ n =>
              exfalso
              have : ∀ n i, ¬ Wk eb (n + 1) i a := fun n => by
                induction n with
                | zero => rintro i ⟨j, hj, hk⟩; have hk : j = a := hk; exact ((hb i j).1 hj).2.2 hk
                | succ n ih => rintro i ⟨j, hj, hk⟩; exact ih j hk
              exact this n h hwk
          · have := (D_ok eb).le h a; omega
        simp only [NEV] at this
        omega
    · have hab := (hb a b).2 ⟨x, ha, y⟩
      have h1 := D_tri eb (he8 a b x).1 h b
      have h2 := D_edge hab
      omega
theorem spr_eq (hP : P ≤ 8) (hw : who < P) {h : Nat} (hh : h < P) {A B : Int} (hA : 0 ≤ A ∧ A ≤ 1000) (hB : 0 ≤ B ∧ B ≤ 1000) (hA1 : h = who → A = 1000) {x k : Nat} (hk : k < 2) : sprS e who P (ini1 h A B) (2 * P) x k = Fm e eb who h A B x k := by
  have he8 : ∀ a b, e a b = true → a < 8 ∧ b < 8 := fun a b x => by have := he a b x; omega
  have hbP : ∀ a b, eb a b = true → a < P ∧ b < P := fun a b x => he a b ((hb a b).1 x).1
  have hge : Ge (Fm e eb who h A B) (ini1 h A B) := fun i j => by
    have z1 := (D_ok e).zz h; have z2 := (D_ok eb).zz h
    simp only [Fm, ini1]
    by_cases hi : i = h
    · subst hi
      rw [if_pos rfl]
      repeat' split
      all_goals omega
    · rw [if_neg hi]
      repeat' split
      all_goals omega
  have lo := (Fm_fix he hb hP hw hh (B := B) hA.1 hA1).spr (P := P) hge (2 * P) x k
  refine Int.le_antisymm ?_ lo
  have n1 := (D_ok e).nn h x; have n2 := (D_ok e).nn h who; have n3 := (D_ok e).nn who x; have n4 := (D_ok eb).nn h x
  have top : sprS e who P (ini1 h A B) (2 * P) x k ≤ 1000 := by
    have := sprS_le (e := e) (who := who) (P := P) (ini1 h A B) x k (2 * P)
    have : ini1 h A B x k ≤ 1000 := by
      simp only [ini1]
      repeat' split
      all_goals omega
    omega
  by_cases hk0 : k = 0
  · subst hk0
    simp only [Fm, reduceIte]
    by_cases hl : D eb h x < NEV
    · obtain ⟨n, hn, hwk⟩ := D_sound hl
      have h1 := D_lt hP hbP hh hl
      have h2 := walk_non he hb n (ini1 h A B) h x hwk
      have h3 := sprS_more (e := e) (who := who) (P := P) (ini1 h A B) x 0 n (2 * P - n)
      rw [show n + (2 * P - n) = 2 * P by omega] at h3
      simp only [ini1, reduceIte] at h2 h3 top ⊢
      omega
    · simp only [NEV] at hl; omega
  · obtain rfl : k = 1 := by omega
    simp only [Fm, Nat.one_ne_zero, reduceIte]
    have c1 : sprS e who P (ini1 h A B) (2 * P) x 1 ≤ B + D e h x := by
      by_cases hl : D e h x < NEV
      · obtain ⟨n, hn, hwk⟩ := D_sound hl
        have h1 := D_lt hP he hh hl
        have h2 := walk_one (who := who) he n (ini1 h A B) h x hwk
        have h3 := sprS_more (e := e) (who := who) (P := P) (ini1 h A B) x 1 n (2 * P - n)
        rw [show n + (2 * P - n) = 2 * P by omega] at h3
        simp only [ini1, reduceIte, Nat.one_ne_zero] at h2 h3 ⊢
        omega
      · simp only [NEV] at hl; omega
    have c2 : sprS e who P (ini1 h A B) (2 * P) x 1 ≤ A + D e h who + D e who x := by
      by_cases hw1 : h = who
      · have := hA1 hw1; omega
      by_cases hl : D e h who < NEV
      · by_cases hl2 : D e who x < NEV
        · obtain ⟨n, hn, hwk⟩ := D_sound hl
          obtain ⟨n2, hn2, hwk2⟩ := D_sound hl2
          have h1 := D_lt hP he hh hl
          have h1' := D_lt hP he hw hl2
          rcases first_hit hb n h who hw1 hwk with h4 | ⟨m, m', a, hm, g1, g2, g3⟩
          · exfalso
            cases n with
            | zero => exact hw1 h4
            | succ n =>
              have : ∀ n i, ¬ Wk eb (n + 1) i who := fun n => by
                induction n with
                | zero => rintro i ⟨j, hj, hk⟩; have hk : j = who := hk; exact ((hb i j).1 hj).2.2 hk
                | succ n ih => rintro i ⟨j, hj, hk⟩; exact ih j hk
              exact this n h h4
          · have h2 := walk_two he hb m (m' + n2) (ini1 h A B) h a x g1 g2 (g3.trans hwk2)
            have h3 := sprS_more (e := e) (who := who) (P := P) (ini1 h A B) x 1 (m + 1 + (m' + n2)) (2 * P - (m + 1 + (m' + n2)))
            rw [show m + 1 + (m' + n2) + (2 * P - (m + 1 + (m' + n2))) = 2 * P by omega] at h3
            simp only [ini1, reduceIte] at h2 h3 ⊢
            omega
        · simp only [NEV] at hl2; omega
      · simp only [NEV] at hl; omega
    omega
end
end Go.Proofs.Ytagdholenfkeaaa

/- Through whose hands: what is named, surely so, and possible. -/
namespace Go.Proofs.Ytagdholenfkeaaa
open Go.Gh
theorem eF_in {c : Ch} (hv : c.valid = true) (but : Int) : ∀ a b, eF c.kn but a b = true → a < c.ps.toNat ∧ b < c.ps.toNat := fun a b h => by
  simp only [eF, Bool.and_eq_true] at h
  obtain ⟨k, hk, hq⟩ := List.any_eq_true.1 h.2
  have := valid_kn hv hk
  simp only [knowQ, Bool.or_eq_true, Bool.and_eq_true, decide_eq_true_eq] at hq
  omega
theorem eF_sub {l : List Kw} (u : Nat) : ∀ a b, eF l (u : Nat) a b = true ↔ eF l (-1) a b = true ∧ a ≠ u ∧ b ≠ u := fun a b => by
  simp only [eF, Bool.and_eq_true, Bool.not_eq_true', decide_eq_false_iff_not]
  rw [show ((a : Int) = (u : Int)) ↔ a = u by omega, show ((b : Int) = (u : Int)) ↔ b = u by omega]
  exact ⟨fun h => ⟨⟨⟨by omega, by omega⟩, h.2⟩, h.1.1, h.1.2⟩, fun h => ⟨⟨h.2.1, h.2.2⟩, h.1.2⟩⟩
theorem eF_in8 {c : Ch} (hv : c.valid = true) (but : Int) : ∀ a b, eF c.kn but a b = true → a < 8 ∧ b < 8 := fun a b h => by
  have := eF_in hv but a b h
  have := valid_num hv
  omega
theorem past2 {c : Ch} (hv : c.valid = true) {u h f : Nat} (hne : h ≠ u) : D (eF c.kn (u : Nat)) h f = D (eF c.kn (-1)) h f ∨ D (eF c.kn (-1)) h u + D (eF c.kn (-1)) u f ≤ D (eF c.kn (-1)) h f := by
  have he8 := eF_in8 hv (-1)
  have hbe := eF_in8 hv (u : Nat)
  have hmono := D_mono (e := eF c.kn (u : Nat)) he8 (fun i j q => ((eF_sub u i j).1 q).1) h f
  by_cases hl : D (eF c.kn (-1)) h f < NEV
  · obtain ⟨n, hn, hwk⟩ := D_sound hl
    rcases first_hit (eF_sub u) n h f hne hwk with h1 | ⟨m, m', a, hm, g1, g2, g3⟩
    · have := D_walk hbe h1
      exact .inl (by omega)
    · have h1 := D_walk he8 ((Wk.mono (fun i j q => ((eF_sub u i j).1 q).1) g1).snoc g2)
      have h2 := D_walk he8 g3
      exact .inr (by omega)
  · have h1 := (D_ok (eF c.kn (-1))).le h f
    have h2 := (D_ok (eF c.kn (u : Nat))).le h f
    exact .inl (by omega)
/-- By way of a person, record by record. -/
def viaR (f : Mx) (w : Nat) (more : Int) : Nat → List Rc → Prop
  | h, [] => f h w ≤ more
  | h, r :: l => f h w + f w r.f.toNat - f h r.f.toNat ≤ more ∨ viaR f w more r.t.toNat l
theorem viaR_iff {f : Mx} {w : Nat} {more : Int} : ∀ (l : List (Nat × Rc)) (h : Int), (toL h l ++ [Ytagdholenfkeaaa.St.mk (lastH h l) none]).any (viaQ f more w) = true ↔ viaR f w more h.toNat (l.map (·.2))
  | [], h => by simp [toL, lastH, viaQ, byV, leastV, viaR]
  | e :: l, h => by
    rw [lastH_cons, toL, List.cons_append, List.any_cons, Bool.or_eq_true, viaR_iff l e.2.t]
    simp only [viaQ, byV, leastV, List.map_cons, viaR]
    exact or_congr_left ⟨fun h => of_decide_eq_true h, fun h => decide_eq_true h⟩
theorem viaR_mono {f : Mx} {w : Nat} {m m' : Int} (hm : m ≤ m') : ∀ (l : List Rc) (h : Nat), viaR f w m h l → viaR f w m' h l
  | [], _, h => Int.le_trans h hm
  | r :: l, _, h => h.imp (fun h => Int.le_trans h hm) (viaR_mono hm l r.t.toNat)
theorem with_bitB {u : Nat} : ∀ (l : List Nat) (s : Nat), (withN s l).testBit u = (s.testBit u || l.contains u)
  | [], s => by simp [withN]
  | x :: l, s => by
    have := with_bitB (u := u) l (s ||| 2 ^ x)
    simp only [withN, List.foldl_cons] at this ⊢
    rw [this, Nat.testBit_or, Nat.testBit_two_pow, List.contains_cons, Bool.or_assoc]
    congr 2
    by_cases h : x = u
    · simp [h]
    · rw [decide_eq_false h]
      simp [Ne.symm h]
theorem named_R (l : List (Nat × Rc)) (u : Nat) : (namedN l).testBit u = true ↔ 0 = u ∨ ∃ r ∈ l.map (·.2), r.f.toNat = u ∨ r.t.toNat = u := by
  rw [namedN, with_bitB, Bool.or_eq_true]
  have h1 : Nat.testBit 1 u = true ↔ 0 = u := by
    rw [show (1 : Nat) = 2 ^ 0 from rfl, Nat.testBit_two_pow]; simp
  rw [h1]
  simp only [List.contains_iff_mem, List.mem_flatMap, List.mem_map, List.mem_cons, List.not_mem_nil, or_false]
  constructor
  · rintro (h | ⟨e, he, h⟩)
    · exact .inl h
    · exact .inr ⟨_, ⟨e, he, rfl⟩, h.imp Eq.symm Eq.symm⟩
  · rintro (h | ⟨_, ⟨e, he, rfl⟩, h⟩)
    · exact .inl h
    · exact .inr ⟨e, he, h.imp Eq.symm Eq.symm⟩
theorem named_viaR {f : Mx} (hf : MOk f) {w : Nat} {more : Int} (hm : 0 ≤ more) : ∀ (l : List Rc) (h : Nat), (h = w ∨ ∃ z ∈ l, z.f.toNat = w ∨ z.t.toNat = w) → viaR f w more h l
  | [], h, hx => by
    rcases hx with rfl | ⟨z, hz, _⟩
    · have := hf.zz h; simp only [viaR]; omega
    · cases hz
  | z :: l, h, hx => by
    simp only [viaR]
    have zz := hf.zz w
    rcases hx with rfl | ⟨y, hy, hyw⟩
    · exact .inl (by omega)
    · rcases List.mem_cons.1 hy with rfl | hy
      · rcases hyw with h1 | h1
        · exact .inl (by rw [h1]; omega)
        · exact .inr (named_viaR hf hm l _ (.inl h1))
      · exact .inr (named_viaR hf hm l _ (.inr ⟨y, hy, hyw⟩))
/-- What cannot be had without a person goes by way of this person. -/
theorem more_via {c : Ch} (hv : c.valid = true) {u : Nat} : ∀ (l : List Rc) (h : Nat), totR (D (eF c.kn (-1))) h l < totR (D (eF c.kn (u : Nat))) h l → viaR (D (eF c.kn (-1))) u 0 h l
  | [], _, hx => by simp [totR] at hx
  | r :: l, h, hx => by
    simp only [totR] at hx
    have zz := (D_ok (eF c.kn (-1))).zz u
    by_cases e : h = u
    · subst e; exact .inl (by omega)
    · rcases past2 hv (f := r.f.toNat) e with h1 | h1
      · exact .inr (more_via hv l r.t.toNat (by omega))
      · exact .inl (by omega)
theorem end_via {f : Mx} {w : Nat} {more : Int} : ∀ (l : List (Nat × Rc)) (h : Int), f (lastH h l).toNat w ≤ more → viaR f w more h.toNat (l.map (·.2))
  | [], h, hx => hx
  | e :: l, h, hx => by rw [lastH_cons] at hx; exact .inr (end_via l e.2.t hx)
theorem sub_zero {x y : Nat} (hx : x < 2 ^ 62) (hy : y < 2 ^ 62) (h : ∀ i, x.testBit i = true → y.testBit i = true) : x &&& (2 ^ 64 - 1 - y) = 0 := by
  apply Nat.eq_of_testBit_eq
  intro i
  rw [Nat.testBit_and, show 2 ^ 64 - 1 - y = 2 ^ 64 - (y + 1) by omega, Nat.testBit_two_pow_sub_succ (by omega), Nat.zero_testBit]
  cases e : x.testBit i with
  | false => rfl
  | true => rw [h i e]; cases decide (i < 64) <;> rfl
section
variable {c : Ch} (hv : c.valid = true) {p : Int}
include hv
theorem named_lt2 {u : Nat} (h : (namedN (selN p (allS c.rs.length) c.rs c.rs.length)).testBit u = true) : u < c.ps.toNat := by
  have hn := valid_num hv
  rcases (named_R _ u).1 h with h | ⟨r, hr, h⟩
  · omega
  · obtain ⟨e, he, rfl⟩ := List.mem_map.1 hr
    have := valid_rs hv (List.mem_of_getElem? (sel_mem _ e he).2.1)
    omega
theorem named_sure : ∀ i, (namedN (selN p (allS c.rs.length) c.rs c.rs.length)).testBit i = true → (setN (surQ c p) c.ps.toNat).testBit i = true := fun i h => by
  rw [setN_bit, decide_eq_true (named_lt2 hv h), surQ, sureQ, h]; rfl
variable (hc : leastC c ≤ c.ms)
include hc
omit hv in
theorem canQ_iff (u : Nat) : canQ c p u = true ↔ viaR (D (eF c.kn (-1))) u (c.ms - leastC c) 0 ((selN p (allS c.rs.length) c.rs c.rs.length).map (·.2)) := by
  have h6 := viaR_iff (f := D (eF c.kn (-1))) (w := u) (more := c.ms - leastC c) (selN p (allS c.rs.length) c.rs c.rs.length) 0
  simp only [canQ, Bool.or_eq_true]
  constructor
  · rintro (h | h)
    · exact named_viaR (D_ok _) (by omega) _ _ ((named_R _ u).1 h)
    · exact h6.1 h
  · intro h; exact .inr (h6.2 h)
theorem sure_can : ∀ i, (setN (surQ c p) c.ps.toNat).testBit i = true → (setN (canQ c p) c.ps.toNat).testBit i = true := fun i h => by
  rw [setN_bit, Bool.and_eq_true, decide_eq_true_iff] at h
  rw [setN_bit, decide_eq_true h.1, Bool.true_and, canQ_iff hc]
  have h2 := h.2
  simp only [surQ, sureQ, Bool.or_eq_true, decide_eq_true_eq] at h2
  rcases h2 with h2 | h2
  · exact named_viaR (D_ok _) (by omega) _ _ ((named_R _ i).1 h2)
  · rw [steps_R, steps_R] at h2
    exact viaR_mono (by omega) _ _ (more_via hv _ _ (by omega))
omit hv in
theorem where_can : ∀ i, (whereC c p).testBit i = true → (setN (canQ c p) c.ps.toNat).testBit i = true := fun i h => by
  rw [whereC_bit, Bool.and_eq_true, decide_eq_true_iff, decide_eq_true_iff] at h
  rw [setN_bit, decide_eq_true h.1, Bool.true_and, canQ_iff hc]
  refine end_via (selN p (allS c.rs.length) c.rs c.rs.length) 0 ?_
  rw [last_all]; exact h.2
omit hv hc in
/-- Of somebody who is not named: is it sure? -/
theorem sure_less {u : Nat} (hu : u < c.ps.toNat) (hnm : (namedN (selN p (allS c.rs.length) c.rs c.rs.length)).testBit u = false) : (setN (surQ c p) c.ps.toNat).testBit u = decide (c.ms < totR (D (eF c.kn (u : Nat))) 0 (plR c.rs p) + (leastC c - totR (D (eF c.kn (-1))) 0 (plR c.rs p))) := by
  rw [setN_bit, decide_eq_true hu, Bool.true_and]
  simp only [surQ, sureQ, hnm, Bool.false_or, tot_plR]
  exact decide_eq_decide.2 (by omega)
end
theorem named_next {p : Int} {rs : List Rc} {S k : Nat} {a b : Nat} (hr : rs[k]? = some ⟨p, a, b⟩) (hb : S.testBit k = true) : namedN (selN p S rs (k + 1)) = namedN (selN p S rs k) ||| (2 ^ a ||| 2 ^ b) := by
  rw [sel_next hr rfl hb, namedN_snoc]
  simp only [withN, List.foldl_cons, List.foldl_nil, Int.toNat_natCast, Nat.or_assoc]
theorem bitN_ne {w l : Nat} (h : ¬ bitN w l = 1) : w.testBit l = false := by
  cases e : w.testBit l with
  | false => rfl
  | true => exact absurd (bitN_t e) h
/-- The chain of one plate, without a person; the chain of the others. -/
def Ch.less (c : Ch) (p u : Nat) : Ch := { c with kn := c.kn.filter fun k => !decide (k.a = (u : Nat)) && !decide (k.b = (u : Nat)), rs := c.rs.filter fun r => decide (r.p = (p : Nat)) }
def Ch.rest (c : Ch) (p : Nat) : Ch := { c with kn := c.kn, rs := c.rs.filter fun r => !decide (r.p = (p : Nat)) }
theorem less_valid {c : Ch} (hv : c.valid = true) (p u : Nat) : (c.less p u).valid = true := valid_filt hv _ _
theorem rest_valid {c : Ch} (hv : c.valid = true) (p : Nat) : (c.rest p).valid = true := by
  have hn := valid_num hv
  have b := List.length_filter_le (fun r : Rc => !decide (r.p = (p : Nat))) c.rs
  exact valid_sub hv (by omega) (by omega) (fun k hk => hk) fun r hr => (List.mem_filter.1 hr).1
def lessT (c : Ch) (p u : Nat) : Int := totR (D (eF c.kn (u : Nat))) 0 (plR c.rs (p : Nat))
def restT (c : Ch) (p : Nat) : Int := leastC c - totR (D (eF c.kn (-1))) 0 (plR c.rs (p : Nat))
theorem less_least (c : Ch) {p : Nat} (u : Nat) (hp : (p : Int) < c.pl) : leastC (c.less p u) = lessT c p u := by
  rw [least_sumR]
  have := sum_own (D (eF c.kn (u : Nat))) c.rs p c.pl.toNat
  rw [if_pos (by omega)] at this
  simp only [Ch.less]
  rw [eF_less]; exact this
theorem rest_least (c : Ch) {p : Nat} (hp : (p : Int) < c.pl) : leastC (c.rest p) = restT c p := by
  rw [restT, least_sumR, least_sumR]
  have := sum_oth (D (eF c.kn (-1))) c.rs p c.pl.toNat
  rw [if_pos (by omega)] at this
  simp only [Ch.rest]
  omega
theorem rest_in (c : Ch) {p : Nat} (hp : (p : Int) < c.pl) : 0 ≤ restT c p ∧ restT c p ≤ leastC c := by
  have h1 := rest_least c hp
  have h2 := sumR_nn (D_ok (eF c.kn (-1))) (c.rest p).rs (c.rest p).pl.toNat
  have h3 := least_sumR (c.rest p)
  have h4 := totR_nn (D_ok (eF c.kn (-1))) (plR c.rs (p : Nat)) 0
  have h5 : (c.rest p).kn = c.kn := rfl
  rw [h5] at h3
  simp only [restT] at h1 ⊢
  omega
theorem less_nn (c : Ch) (p u : Nat) : 0 ≤ lessT c p u := totR_nn (D_ok _) _ _
/-- Is it sure of one who is not named? -/
theorem sure_bit {c : Ch} {p u : Nat} (hu : u < c.ps.toNat) (hnm : (namedN (selN (p : Nat) (allS c.rs.length) c.rs c.rs.length)).testBit u = false) : decide (bitN (setN (surQ c (p : Nat)) c.ps.toNat) u = 0) = decide (lessT c p u + restT c p ≤ c.ms) := by
  have h := sure_less (c := c) (p := (p : Nat)) hu hnm
  have e : totR (D (eF c.kn (u : Nat))) 0 (plR c.rs (p : Nat)) + (leastC c - totR (D (eF c.kn (-1))) 0 (plR c.rs (p : Nat))) = lessT c p u + restT c p := rfl
  rw [e] at h
  by_cases hc : c.ms < lessT c p u + restT c p
  · rw [decide_eq_true hc] at h
    rw [bitN_t h, decide_eq_false (show ¬ lessT c p u + restT c p ≤ c.ms by omega)]; rfl
  · rw [decide_eq_false hc] at h
    rw [bitN_f h, decide_eq_true (show lessT c p u + restT c p ≤ c.ms by omega)]; rfl
end Go.Proofs.Ytagdholenfkeaaa

/- The document's states: for each of eight persons two numbers. -/
namespace Go.Proofs.Ytagdholenfkeaaa
open Go.Gh
def stt (g : Mx) : List P := (List.range 16).map fun q => .int .i64 (g (q / 2) (q % 2))
theorem stt_len (g : Mx) : (stt g).length = 16 := by simp [stt]
theorem stt_at (g : Mx) {q : Nat} (h : q < 16) : (stt g)[q]? = some (.int .i64 (g (q / 2) (q % 2))) := by
  rw [stt, List.getElem?_map, List.getElem?_range h, Option.map_some]
theorem stt_get (g : Mx) {x y : Nat} (hx : x < 8) (hy : y < 2) : (stt g)[x * 2 + y]? = some (.int .i64 (g x y)) := by
  rw [stt_at g (by omega), show (x * 2 + y) / 2 = x by omega, show (x * 2 + y) % 2 = y by omega]
theorem stt_congr {f g : Mx} (h : ∀ x, x < 8 → ∀ y, y < 2 → f x y = g x y) : stt f = stt g := by
  unfold stt
  apply List.map_congr_left
  intro q hq
  have := List.mem_range.1 hq
  rw [h (q / 2) (by omega) (q % 2) (by omega)]
theorem stt_set (g : Mx) {x y : Nat} (hx : x < 8) (hy : y < 2) (v : Int) : (stt g).set (x * 2 + y) (.int .i64 v) = stt (fun i k => if i = x ∧ k = y then v else g i k) := by
  apply List.ext_getElem?
  intro q
  by_cases hq : q < 16
  · rw [stt_at _ hq]
    by_cases e : x * 2 + y = q
    · subst e
      rw [List.getElem?_set_self (by rw [stt_len]; omega), show (x * 2 + y) / 2 = x by omega, show (x * 2 + y) % 2 = y by omega]
      simp
    · rw [List.getElem?_set_ne e, stt_at g hq, if_neg (by omega)]
  · rw [List.getElem?_eq_none (by rw [List.length_set, stt_len]; omega), List.getElem?_eq_none (by rw [stt_len]; omega)]
theorem stt_pair (g : Mx) {x : Nat} (hx : x < 8) (u v : Int) : (stt g).take (x * 2) ++ [.int .i64 u, .int .i64 v] ++ (stt g).drop (x * 2 + 2) = stt (fun i k => if i = x then (if k = 0 then u else v) else g i k) := by
  apply List.ext_getElem?
  intro q
  have hl : ((stt g).take (x * 2)).length = x * 2 := by rw [List.length_take, stt_len]; omega
  have hl2 : ((stt g).take (x * 2) ++ [P.int .i64 u, .int .i64 v]).length = x * 2 + 2 := by rw [List.length_append, hl]; rfl
  by_cases hq : q < 16
  · rw [stt_at _ hq]
    by_cases h1 : q < x * 2
    · rw [List.getElem?_append_left (by omega), List.getElem?_append_left (by omega), List.getElem?_take_of_lt h1, stt_at g hq, if_neg (by omega)]
    · by_cases h2 : q < x * 2 + 2
      · rw [List.getElem?_append_left (by omega), List.getElem?_append_right (by omega), hl, show q / 2 = x by omega, if_pos rfl]
        by_cases h3 : q = x * 2
        · rw [show q - x * 2 = 0 by omega, if_pos (by omega)]; rfl
        · rw [show q - x * 2 = 1 by omega, if_neg (by omega)]; rfl
      · rw [List.getElem?_append_right (by omega), hl2, List.getElem?_drop, show x * 2 + 2 + (q - (x * 2 + 2)) = q by omega, stt_at g hq, if_neg (by omega)]
  · rw [List.getElem?_eq_none (by rw [List.length_append, hl2, List.length_drop, stt_len]; omega), List.getElem?_eq_none (by rw [stt_len]; omega)]
end Go.Proofs.Ytagdholenfkeaaa

/- The document's states as tables: what spreading does to them. -/
namespace Go.Proofs.Ytagdholenfkeaaa
open Go.Gh
def Bd (s : Mx) : Prop := ∀ i k, 0 ≤ s i k ∧ s i k ≤ 1000
section
variable {e : Nat → Nat → Bool} {who P : Nat} {s : Mx}
theorem fix0 : Fix e who (fun _ _ => 0) := ⟨fun _ _ _ => by omega, fun _ _ _ _ => by omega, fun _ _ _ _ => by omega⟩
theorem Bd.row (h : Bd s) (a n : Nat) : Bd (rowS e who a s n) := fun i k => ⟨fix0.row (fun i k => (h i k).1) a n i k, Int.le_trans (rowS_le _ _ _ _ _) (h i k).2⟩
theorem Bd.rnd (h : Bd s) (n : Nat) : Bd (rndS e who P s n) := fun i k => ⟨fix0.rnd (fun i k => (h i k).1) n i k, Int.le_trans (rndS_le _ _ _ _) (h i k).2⟩
theorem Bd.spr (h : Bd s) (n : Nat) : Bd (sprS e who P s n) := fun i k => ⟨fix0.spr (fun i k => (h i k).1) n i k, Int.le_trans (sprS_le _ _ _ _) (h i k).2⟩
end
def kE (l : List Kw) (i k : Nat) : Bool := knowI l i k
/-- A person with both numbers. -/
def begV (h who : Nat) (A B : Int) : Mx := if h = who then ini1 h 1000 (min A B) else ini1 h A B
theorem begV_bd {h who : Nat} {A B : Int} (hA : 0 ≤ A ∧ A ≤ 1000) (hB : 0 ≤ B ∧ B ≤ 1000) : Bd (begV h who A B) := fun i k => by
  simp only [begV]
  split
  · simp only [ini1]; repeat' split
    all_goals omega
  · simp only [ini1]; repeat' split
    all_goals omega
theorem stt_one {h who : Nat} {A B : Int} (e : h = who) (hh : h < 8) : (stt (fun _ _ => 1000)).set (h * 2 + 1) (.int .i64 (min A B)) = stt (begV h who A B) := by
  rw [stt_set _ hh (by omega), begV, if_pos e]
  refine stt_congr fun x _ y hy => ?_
  simp only [ini1]
  by_cases hx : x = h
  · subst hx
    simp only [reduceIte, true_and]
    by_cases h0 : y = 0
    · subst h0; simp
    · obtain rfl : y = 1 := by omega
      simp
  · rw [if_neg (by omega), if_neg hx]
theorem stt_two {h who : Nat} {A B : Int} (e : ¬ h = who) : stt (fun i j => if i = h then (if j = 0 then A else B) else 1000) = stt (begV h who A B) := by
  rw [begV, if_neg e]
  refine stt_congr fun x _ y hy => ?_
  simp only [ini1]
  by_cases hx : x = h
  · rw [if_pos hx, if_pos hx]
    by_cases h0 : y = 0
    · rw [if_pos h0, if_pos h0]
    · rw [if_neg h0, if_neg h0, if_pos (by omega)]
  · rw [if_neg hx, if_neg hx]
theorem set_S (s : Mx) {x y : Nat} (hx : x < 8) (hy : y < 2) (v : Int) : (stt s).set (x * 2 + y) (.int .i64 v) = stt (setS s x y v) := stt_set s hx hy v
theorem rlx_no {e : Nat → Nat → Bool} {who a b : Nat} {s : Mx} (h : e a b = false) : rlx e who a b s = s := by simp [rlx, h]
theorem rlx_who {e : Nat → Nat → Bool} {who a b : Nat} {s : Mx} (h : e a b = true) (hw : b = who) : rlx e who a b s = setS (setS s b 1 (min (s b 1) (s a 1 + 1))) b 1 (min (min (s b 1) (s a 1 + 1)) (s a 0 + 1)) := by
  rw [rlx, if_pos h, if_pos hw]
theorem rlx_oth {e : Nat → Nat → Bool} {who a b : Nat} {s : Mx} (h : e a b = true) (hw : ¬ b = who) : rlx e who a b s = setS (setS s b 1 (min (s b 1) (s a 1 + 1))) b 0 (min (s b 0) (s a 0 + 1)) := by
  rw [rlx, if_pos h, if_neg hw]
theorem setS_at (s : Mx) (x y : Nat) (v : Int) : setS s x y v x y = v := by simp [setS]
theorem setS_zero (s : Mx) (x i : Nat) (v : Int) : setS s x 1 v i 0 = s i 0 := by simp [setS]
end Go.Proofs.Ytagdholenfkeaaa

/- Who knows whom, of a chain that is valid. -/
namespace Go.Proofs.Ytagdholenfkeaaa
open Go.Gh
theorem eF_kE (l : List Kw) : eF l (-1) = kE l := by
  funext i k
  simp only [eF, kE]
  rw [decide_eq_false (by omega), decide_eq_false (by omega)]; rfl
theorem kE_in {c : Ch} (h : c.valid = true) : ∀ a b, kE c.kn a b = true → a < c.ps.toNat ∧ b < c.ps.toNat := fun a b hab => by
  obtain ⟨k, hk, hq⟩ := List.any_eq_true.1 hab
  have := valid_kn h hk
  simp only [knowQ, Bool.or_eq_true, Bool.and_eq_true, decide_eq_true_eq] at hq
  omega
end Go.Proofs.Ytagdholenfkeaaa

/- The first break, looked for record by record; the first way, by length. -/
namespace Go.Proofs.Ytagdholenfkeaaa
open Go.Gh
/-- Is the chain of a plate broken at a record? -/
def brkB (c : Ch) (x : Int) (i : Nat) : Bool := match c.rs[i]? with | some r => decide (r.p = x) && !decide (r.f = holN x c.rs i) | none => false
theorem find_none {c : Ch} {x : Int} : ∀ m, (∀ i, i < m → brkB c x i = false) → (selN x (allS c.rs.length) c.rs m).find? (fun e => !decide (holN x c.rs e.1 = e.2.f)) = none := fun m h => by
  rw [List.find?_eq_none]
  intro e he
  obtain ⟨h1, h2, h3, _⟩ := sel_mem m e he
  have := h e.1 h1
  simp only [brkB, h2, h3, decide_true, Bool.true_and, Bool.not_eq_false', decide_eq_true_eq] at this
  simp [this]
theorem find_some {c : Ch} {x : Int} {k : Nat} {r : Rc} (h : ∀ i, i < k → brkB c x i = false) (hr : c.rs[k]? = some r) (hp : r.p = x) (hn : ¬ r.f = holN x c.rs k) : (selN x (allS c.rs.length) c.rs c.rs.length).find? (fun e => !decide (holN x c.rs e.1 = e.2.f)) = some (k, r) := by
  have hk := (List.getElem?_eq_some_iff.1 hr).1
  obtain ⟨t, e, _⟩ := sel_pre (p := x) (set := allS c.rs.length) (rs := c.rs) (k + 1) c.rs.length (by omega)
  rw [e, sel_next hr hp (all_bit hk), List.append_assoc, List.find?_append, find_none k h, Option.none_or, List.cons_append, List.find?_cons_of_pos]
  simp only [Bool.not_eq_true', decide_eq_false_iff_not]
  exact fun e => hn e.symm
theorem brkV_first {c : Ch} {x : Int} {k : Nat} {r : Rc} (h : ∀ i, i < k → brkB c x i = false) (hr : c.rs[k]? = some r) (hp : r.p = x) (hn : ¬ r.f = holN x c.rs k) : brkV c x = ((k : Int), 0) := brkV_some (by rw [brk, find_some h hr hp hn]; rfl)
theorem brkV_no {c : Ch} {x : Int} (h : ∀ i, i < c.rs.length → brkB c x i = false) : brkV c x = (0, 4) := brkV_none (by rw [brk, find_none _ h]; rfl)
theorem brkB_step {c : Ch} {x : Int} {k : Nat} (h : ∀ i, i < k → brkB c x i = false) (hk : brkB c x k = false) : ∀ i, i < k + 1 → brkB c x i = false := fun i hi => by
  by_cases e : i = k
  · subst e; exact hk
  · exact h i (by omega)
theorem brkB_f1 {c : Ch} {x : Int} {k : Nat} {r : Rc} (hr : c.rs[k]? = some r) (h : ¬ r.p = x) : brkB c x k = false := by simp [brkB, hr, h]
theorem brkB_f2 {c : Ch} {x : Int} {k : Nat} {r : Rc} (hr : c.rs[k]? = some r) (h : r.f = holN x c.rs k) : brkB c x k = false := by simp [brkB, hr, h]
/-- The first way of some length. -/
def wayR (kn : List Kw) (P dst : Nat) : Nat → Nat → List Nat × Bool
  | 0, a => ([a], decide (a = dst))
  | n + 1, a => match (List.range P).find? fun k : Nat => knowI kn a k && (wayR kn P dst n k).2 with
    | some k => (a :: (wayR kn P dst n k).1, true)
    | none => ([], false)
section
variable {kn : List Kw} {P dst : Nat}
theorem wayR_some {n a k : Nat} (hk : k < P) (h : ∀ i, i < k → (knowI kn a i && (wayR kn P dst n i).2) = false) (h1 : knowI kn a k = true) (h2 : (wayR kn P dst n k).2 = true) : wayR kn P dst (n + 1) a = (a :: (wayR kn P dst n k).1, true) := by
  simp only [wayR]
  rw [find_first hk h (by rw [h1, h2]; rfl)]
theorem wayR_none {n a : Nat} (h : ∀ i, i < P → (knowI kn a i && (wayR kn P dst n i).2) = false) : wayR kn P dst (n + 1) a = ([], false) := by
  simp only [wayR]
  rw [List.find?_eq_none.2 fun x hx => by rw [h x (List.mem_range.1 hx)]; simp]
theorem wayR_len : ∀ n a, (wayR kn P dst n a).1.length ≤ n + 1
  | 0, a => by simp [wayR]
  | n + 1, a => by
    simp only [wayR]
    split
    · rename_i k _
      have := wayR_len n k
      simp only [List.length_cons]; omega
    · simp
theorem wayR_iff (he : ∀ a b, kE kn a b = true → a < P ∧ b < P) : ∀ n a, (wayR kn P dst n a).2 = true ↔ Wk (kE kn) n a dst
  | 0, a => by simp [wayR, Wk]
  | n + 1, a => by
    simp only [wayR, Wk]
    split
    · rename_i k hk
      have h1 := List.find?_some hk
      simp only [Bool.and_eq_true] at h1
      exact ⟨fun _ => ⟨k, h1.1, (wayR_iff he n k).1 h1.2⟩, fun _ => rfl⟩
    · rename_i hn
      rw [List.find?_eq_none] at hn
      refine ⟨fun h => (by cases h), fun ⟨j, hj, hw⟩ => ?_⟩
      have := hn j (List.mem_range.2 (he a j hj).2)
      simp only [Bool.and_eq_true, not_and, Bool.not_eq_true] at this
      have h2 := this hj
      rw [(wayR_iff he n j).2 hw] at h2; cases h2
theorem nxt_same (he : ∀ a b, kE kn a b = true → a < P ∧ b < P) (hP : P ≤ 8) {n a : Nat} (h : D (kE kn) a dst = ((n + 1 : Nat) : Int)) : (fun k : Nat => knowI kn a k && (wayR kn P dst n k).2) = nxtQ kn (D (kE kn)) dst a := by
  have he8 : ∀ a b, kE kn a b = true → a < 8 ∧ b < 8 := fun a b x => by have := he a b x; omega
  have hle := (D_ok (kE kn)).le a dst
  simp only [NEV] at hle
  funext k
  simp only [nxtQ]
  cases hk : knowI kn a k with
  | false => rfl
  | true =>
    rw [Bool.true_and, Bool.true_and]
    have hka : kE kn a k = true := hk
    by_cases hd : D (kE kn) k dst = n
    · obtain ⟨m, hm, hw⟩ := D_sound (e := kE kn) (i := k) (k := dst) (by simp only [NEV]; omega)
      obtain rfl : m = n := by omega
      rw [(wayR_iff he m k).2 hw, decide_eq_true (by omega)]
    · have : (wayR kn P dst n k).2 = false := by
        cases hw : (wayR kn P dst n k).2 with
        | false => rfl
        | true =>
          have h1 := D_walk he8 ((wayR_iff he n k).1 hw)
          have h2 := D_tri (kE kn) (he8 a k hka).2 a dst
          have h3 := D_edge hka
          omega
      rw [this, decide_eq_false (by omega)]
theorem nxt_some (he : ∀ a b, kE kn a b = true → a < P ∧ b < P) (hP : P ≤ 8) {n a : Nat} (hl : D (kE kn) a dst < NEV) (h : D (kE kn) a dst = ((n + 1 : Nat) : Int)) : ∃ j, j < P ∧ nxtQ kn (D (kE kn)) dst a j = true := by
  have he8 : ∀ a b, kE kn a b = true → a < 8 ∧ b < 8 := fun a b x => by have := he a b x; omega
  obtain ⟨m, hm, hw⟩ := D_sound hl
  obtain rfl : m = n + 1 := by omega
  obtain ⟨j, hj, hw⟩ := hw
  refine ⟨j, (he a j hj).2, ?_⟩
  have h1 := D_walk he8 hw
  have h2 := D_tri (kE kn) (he8 a j hj).2 a dst
  have h3 := D_edge hj
  simp only [nxtQ, Bool.and_eq_true, decide_eq_true_eq]
  exact ⟨hj, by omega⟩
theorem wayR_pathL (he : ∀ a b, kE kn a b = true → a < P ∧ b < P) (hP : P ≤ 8) : ∀ n a, a < P → D (kE kn) a dst < NEV → D (kE kn) a dst = (n : Nat) → wayR kn P dst n a = (pathL kn (D (kE kn)) P dst n a, true) := by
  intro n
  induction n with
  | zero =>
    intro a ha hl h
    obtain ⟨n, hn, hw⟩ := D_sound hl
    have hn0 : n = 0 := by omega
    subst hn0
    have hw : a = dst := hw
    rw [wayR, pathL, decide_eq_true hw]
  | succ n ih =>
    intro a ha hl h
    rw [wayR, pathL, nxt_same he hP h]
    cases hk : (List.range P).find? (nxtQ kn (D (kE kn)) dst a) with
    | some k =>
      have h1 := List.find?_some hk
      have h0 := List.mem_range.1 (List.mem_of_find?_eq_some hk)
      simp only [nxtQ, Bool.and_eq_true, decide_eq_true_eq] at h1
      simp only []
      rw [ih k h0 (by omega) (by omega)]
    | none =>
      exfalso
      obtain ⟨j, hj, hq⟩ := nxt_some he hP hl h
      rw [List.find?_eq_none] at hk
      exact hk j (List.mem_range.2 hj) hq
end
theorem dec_cast (a b : Nat) : decide ((a : Int) = (b : Int)) = decide (a = b) := by
  by_cases h : a = b
  · rw [decide_eq_true h, decide_eq_true (by omega)]
  · rw [decide_eq_false h, decide_eq_false (by omega)]
end Go.Proofs.Ytagdholenfkeaaa

/- What more to be unwritten, and one pair more, change. -/
namespace Go.Proofs.Ytagdholenfkeaaa
open Go.Gh
set_option maxRecDepth 100000
def Ch.more (c : Ch) : Ch := ⟨c.pl, c.ps, c.kn, c.rs, min 20 (c.ms + 1)⟩
def Ch.wide (c : Ch) (k : Kw) : Ch := ⟨c.pl, c.ps, c.kn ++ [k], c.rs, c.ms⟩
theorem more_ms {c : Ch} (hv : c.valid = true) : c.ms ≤ c.more.ms ∧ c.more.ms ≤ 20 := by
  have hn := valid_num hv
  show c.ms ≤ min 20 (c.ms + 1) ∧ min 20 (c.ms + 1) ≤ 20
  omega
theorem more_valid {c : Ch} (hv : c.valid = true) : c.more.valid = true := by
  have hn := valid_num hv
  obtain ⟨⟨h1, h2⟩, h3, h4⟩ := valid_iff.1 hv
  refine valid_iff.2 ⟨⟨?_, h2⟩, h3, h4⟩
  show ((decide (1 ≤ c.pl) && decide (c.pl ≤ 4)) && (decide (1 ≤ c.ps) && decide (c.ps ≤ 8)) && (decide (0 ≤ min 20 (c.ms + 1)) && decide (min 20 (c.ms + 1) ≤ 20))) = true
  simp only [Bool.and_eq_true, decide_eq_true_eq]
  omega
section
variable {c : Ch} (hv : c.valid = true) {p : Int} (hc : leastC c ≤ c.ms)
include hv
theorem whr_more : ∀ i, (whereC c p).testBit i = true → (whereC c.more p).testBit i = true := fun i h => by
  have hm := more_ms hv
  rw [whereC_bit, Bool.and_eq_true, decide_eq_true_iff, decide_eq_true_iff] at h
  rw [whereC_bit, Bool.and_eq_true, decide_eq_true_iff, decide_eq_true_iff]
  refine ⟨h.1, ?_⟩
  have e : leastC c.more = leastC c := rfl
  have h2 := h.2
  show D (eF c.kn (-1)) (holN p c.rs c.rs.length).toNat i ≤ c.more.ms - leastC c.more
  omega
theorem sur_more : ∀ i, (setN (surQ c.more p) c.ps.toNat).testBit i = true → (setN (surQ c p) c.ps.toNat).testBit i = true := fun i h => by
  have hm := more_ms hv
  rw [setN_bit, Bool.and_eq_true, decide_eq_true_iff] at h
  rw [setN_bit, decide_eq_true h.1, Bool.true_and]
  have h2 : (namedN (selN p (allS c.rs.length) c.rs c.rs.length)).testBit i = true ∨ totV (D (eF c.kn (-1))) (stepsL (selN p (allS c.rs.length) c.rs c.rs.length)) + (c.more.ms - leastC c) < totV (D (eF c.kn (i : Nat))) (stepsL (selN p (allS c.rs.length) c.rs c.rs.length)) := by
    have := h.2
    simp only [surQ, sureQ, Bool.or_eq_true, decide_eq_true_eq] at this
    exact this
  simp only [surQ, sureQ, Bool.or_eq_true, decide_eq_true_eq]
  rcases h2 with h2 | h2
  · exact .inl h2
  · exact .inr (by omega)
include hc in
theorem can_more : ∀ i, (setN (canQ c p) c.ps.toNat).testBit i = true → (setN (canQ c.more p) c.ps.toNat).testBit i = true := fun i h => by
  have hm := more_ms hv
  rw [setN_bit, Bool.and_eq_true, decide_eq_true_iff, canQ_iff hc] at h
  rw [setN_bit, decide_eq_true h.1, Bool.true_and, canQ_iff (c := c.more) (show leastC c ≤ c.more.ms by omega)]
  exact viaR_mono (show c.ms - leastC c ≤ c.more.ms - leastC c by omega) _ _ h.2
theorem drop_more : pop (dropV c.more) ≤ pop (dropV c) := by
  have hm := more_ms hv
  obtain ⟨h1, h2, _⟩ := drop_min hv
  obtain ⟨_, _, h3⟩ := drop_min (more_valid hv)
  have h2' : okD c.more (dropV c) = true := by
    simp only [okD, decide_eq_true_eq] at h2
    exact decide_eq_true (show allV (D (eF c.kn (-1))) c.rs (restS c.rs.length (dropV c)) c.pl.toNat ≤ c.more.ms by omega)
  rcases h3 _ h1 h2' with h | h
  · exact Nat.le_of_lt h
  · exact Nat.le_of_eq h.1
end
/-- Where, and through whose hands: with more to be unwritten. -/
theorem more_whr {c : Ch} (hv : c.valid = true) (x : Int) :
    ((whrA c x).2 ≤ (hanA c x).2 ∧ (hanA c x).2 ≤ (whrA c x).2) ∧ ((whrA c.more x).2 ≤ (hanA c.more x).2 ∧ (hanA c.more x).2 ≤ (whrA c.more x).2) ∧ decide ((whrA c.more x).2 = 2) = decide ((whrA c x).2 = 2) ∧
    ((whrA c x).2 = 0 → (whrA c.more x).2 = 0 ∧ bitop .andNot .i64 ((whrA c x).1 : Nat) ((whrA c.more x).1 : Nat) = 0 ∧ bitop .andNot .i64 ((hanA c.more x).1.1 : Nat) ((hanA c x).1.1 : Nat) = 0 ∧ bitop .andNot .i64 ((hanA c x).1.2 : Nat) ((hanA c.more x).1.2 : Nat) = 0) := by
  have hv2 := more_valid hv
  have hm := more_ms hv
  have hn := valid_num hv
  have el : leastC c.more = leastC c := rfl
  rw [whrA, hanA, whrA, hanA, if_pos hv, if_pos hv, if_pos hv2, if_pos hv2]
  by_cases hq : inQ x c.pl = true
  · have hq' : inQ x c.more.pl = true := hq
    rw [if_pos hq, if_pos hq', if_pos hq, if_pos hq']
    by_cases hc : leastC c ≤ c.ms
    · have hc' : leastC c.more ≤ c.more.ms := by omega
      simp only [if_pos hc, if_pos hc']
      have hw := whereC_lt hv x; have hw' := whereC_lt hv2 x
      have hs := setN_lt (surQ c x) c.ps.toNat (by omega); have hs' := setN_lt (surQ c.more x) c.ps.toNat (by omega)
      have hk := setN_lt (canQ c x) c.ps.toNat (by omega); have hk' := setN_lt (canQ c.more x) c.ps.toNat (by omega)
      refine ⟨⟨Int.le_refl _, Int.le_refl _⟩, ⟨Int.le_refl _, Int.le_refl _⟩, by first | rfl | trivial, fun _ => ⟨by first | rfl | trivial, ?_, ?_, ?_⟩⟩
      · rw [bitop_andNot_i64 _ _ (by omega) (by omega), sub_zero (by omega) (by omega) (whr_more hv)]; rfl
      · refine (bitop_andNot_i64 (setN (surQ c.more x) c.ps.toNat) (setN (surQ c x) c.ps.toNat) (by omega) (by omega)).trans ?_
        rw [sub_zero (by omega) (by omega) (sur_more hv)]; rfl
      · refine (bitop_andNot_i64 (setN (canQ c x) c.ps.toNat) (setN (canQ c.more x) c.ps.toNat) (by omega) (by omega)).trans ?_
        rw [sub_zero (by omega) (by omega) (can_more hv hc)]; rfl
    · simp only [if_neg hc]
      by_cases hc' : leastC c.more ≤ c.more.ms
      · simp only [if_pos hc']
        exact ⟨⟨Int.le_refl _, Int.le_refl _⟩, ⟨Int.le_refl _, Int.le_refl _⟩, by first | rfl | trivial, fun h => absurd h (by decide)⟩
      · simp only [if_neg hc']
        exact ⟨⟨Int.le_refl _, Int.le_refl _⟩, ⟨Int.le_refl _, Int.le_refl _⟩, by first | rfl | trivial, fun h => absurd h (by decide)⟩
  · have hq' : ¬ inQ x c.more.pl = true := hq
    rw [if_neg hq, if_neg hq', if_neg hq, if_neg hq']
    exact ⟨⟨Int.le_refl _, Int.le_refl _⟩, ⟨Int.le_refl _, Int.le_refl _⟩, by first | rfl | trivial, fun h => absurd h (by decide)⟩
/-! One pair more -/
theorem know_wide {l : List Kw} {k : Kw} {a b : Int} (h : knowI l a b = true) : knowI (l ++ [k]) a b = true := by
  rw [knowI, List.any_append, show l.any (knowQ a b) = true from h]; rfl
theorem kE_wide {l : List Kw} {k : Kw} : ∀ a b, kE l a b = true → kE (l ++ [k]) a b = true := fun a b h => know_wide h
theorem D_wide {c : Ch} {k : Kw} (hv : (c.wide k).valid = true) (i j : Nat) : D (eF (c.kn ++ [k]) (-1)) i j ≤ D (eF c.kn (-1)) i j := by
  rw [eF_kE, eF_kE]
  have hn := valid_num hv
  refine D_mono (fun a b h => ?_) kE_wide i j
  have := kE_in hv a b h
  have e : (c.wide k).ps = c.ps := rfl
  rw [e] at this hn
  omega
theorem totR_le {f g : Mx} (h : ∀ i j, f i j ≤ g i j) : ∀ (l : List Rc) (a : Nat), totR f a l ≤ totR g a l
  | [], a => by simp [totR]
  | r :: l, a => by
    have := totR_le h l r.t.toNat
    have := h a r.f.toNat
    simp only [totR]; omega
theorem sumR_le {f g : Mx} (h : ∀ i j, f i j ≤ g i j) (rs : List Rc) : ∀ k, sumR f rs k ≤ sumR g rs k
  | 0 => by simp [sumR]
  | k + 1 => by
    have h1 := sumR_le h rs k
    have h2 := totR_le h (plR rs k) 0
    simp only [sumR]; omega
theorem least_wide {c : Ch} {k : Kw} (hv : (c.wide k).valid = true) : leastC (c.wide k) ≤ leastC c := by
  rw [least_sumR, least_sumR]
  exact sumR_le (D_wide hv) c.rs c.pl.toNat
theorem pathL_all {kn : List Kw} {P dst : Nat} (he : ∀ a b, kE kn a b = true → a < P ∧ b < P) (hP : P ≤ 8) : ∀ n a, D (kE kn) a dst < NEV → D (kE kn) a dst = (n : Nat) → (pathL kn (D (kE kn)) P dst n a).length = n + 1 := by
  intro n
  induction n with
  | zero => intro a _ _; simp only [pathL, List.length_cons, List.length_nil]
  | succ n ih =>
    intro a hl h
    obtain ⟨j, hj, hq⟩ := nxt_some he hP hl h
    cases hk : (List.range P).find? (nxtQ kn (D (kE kn)) dst a) with
    | none => exact absurd hq (List.find?_eq_none.1 hk j (List.mem_range.2 hj))
    | some k =>
      have h1 := List.find?_some hk
      simp only [nxtQ, Bool.and_eq_true, decide_eq_true_eq] at h1
      simp only [pathL, hk, List.length_cons]
      rw [ih k (by omega) (by omega)]
/-- The way of a record: the same number, one pair more. -/
theorem path_wide {c : Ch} {k : Kw} (hv : c.valid = true) (hw : (c.wide k).valid = true) (x y : Int) :
    ((pathA c x y).2 = 0 ∧ (pathA (c.wide k) x y).2 = 0 ∧ (pathA (c.wide k) x y).1.length ≤ (pathA c x y).1.length) ∨ ((pathA c x y).2 = 2 ∧ (pathA (c.wide k) x y).2 = 2) ∨ (pathA c x y).2 = 4 := by
  by_cases hq : pathQ c x y = true
  · have hq' : pathQ (c.wide k) x y = true := hq
    rw [pathA, if_pos hv, if_pos hq, pathA, if_pos hw, if_pos hq']
    cases hr : c.rs[y.toNat]? with
    | none => exact .inr (.inr rfl)
    | some r =>
      have hr' : (c.wide k).rs[y.toNat]? = some r := hr
      rw [hr']
      have hl := D_wide hw (holN x c.rs y.toNat).toNat r.f.toNat
      by_cases hd : D (eF c.kn (-1)) (holN x c.rs y.toNat).toNat r.f.toNat < 1048576
      · refine .inl ?_
        have hd' : D (eF (c.wide k).kn (-1)) (holN x (c.wide k).rs y.toNat).toNat r.f.toNat < 1048576 := by
          show D (eF (c.kn ++ [k]) (-1)) (holN x c.rs y.toNat).toNat r.f.toNat < 1048576
          omega
        simp only [if_pos hd, if_pos hd', true_and]
        have hn := valid_num hv
        have h1 := (pathL_len (kn := (c.wide k).kn) (f := D (eF (c.wide k).kn (-1))) (P := (c.wide k).ps.toNat) (dst := r.f.toNat) (D (eF (c.wide k).kn (-1)) (holN x (c.wide k).rs y.toNat).toNat r.f.toNat).toNat (holN x (c.wide k).rs y.toNat).toNat).2
        have h2 : (pathL c.kn (D (eF c.kn (-1))) c.ps.toNat r.f.toNat (D (eF c.kn (-1)) (holN x c.rs y.toNat).toNat r.f.toNat).toNat (holN x c.rs y.toNat).toNat).length = (D (eF c.kn (-1)) (holN x c.rs y.toNat).toNat r.f.toNat).toNat + 1 := by
          have hnn := (D_ok (eF c.kn (-1))).nn (holN x c.rs y.toNat).toNat r.f.toNat
          rw [eF_kE] at hd hnn ⊢
          exact pathL_all (kE_in hv) (by omega) _ _ hd (by omega)
        have h3 : (D (eF (c.wide k).kn (-1)) (holN x (c.wide k).rs y.toNat).toNat r.f.toNat).toNat ≤ (D (eF c.kn (-1)) (holN x c.rs y.toNat).toNat r.f.toNat).toNat := by
          show (D (eF (c.kn ++ [k]) (-1)) (holN x c.rs y.toNat).toNat r.f.toNat).toNat ≤ _
          omega
        omega
      · refine .inr (.inr ?_)
        simp only [if_neg hd]
  · have hq' : ¬ pathQ (c.wide k) x y = true := hq
    refine .inr (.inl ?_)
    rw [pathA, if_pos hv, if_neg hq, pathA, if_pos hw, if_neg hq']
    exact ⟨rfl, rfl⟩
/-- The three answers to the way, as the walk reads them. -/
theorem path_wide2 {c : Ch} {k : Kw} (hv : c.valid = true) (hw : (c.wide k).valid = true) (x y : Int) :
    (((pathA c x y).2 ≤ 0 ∧ 0 ≤ (pathA c x y).2) ∧ ((pathA (c.wide k) x y).2 ≤ 0 ∧ 0 ≤ (pathA (c.wide k) x y).2) ∧ (intL (pathA (c.wide k) x y).1).length ≤ (intL (pathA c x y).1).length) ∨
    (((pathA c x y).2 ≤ 2 ∧ 2 ≤ (pathA c x y).2) ∧ ((pathA (c.wide k) x y).2 ≤ 2 ∧ 2 ≤ (pathA (c.wide k) x y).2)) ∨ ((pathA c x y).2 ≤ 4 ∧ 4 ≤ (pathA c x y).2) := by
  rw [intL_len, intL_len]
  rcases path_wide hv hw x y with ⟨h1, h2, h3⟩ | ⟨h1, h2⟩ | h1
  · exact .inl ⟨⟨by omega, by omega⟩, ⟨by omega, by omega⟩, h3⟩
  · exact .inr (.inl ⟨⟨by omega, by omega⟩, ⟨by omega, by omega⟩⟩)
  · exact .inr (.inr ⟨by omega, by omega⟩)
theorem least_wide2 {c : Ch} {k : Kw} (hv : c.valid = true) (hw : (c.wide k).valid = true) :
    (((leastA c).2 ≤ 0 ∧ 0 ≤ (leastA c).2) ∧ ((leastA (c.wide k)).2 ≤ 0 ∧ 0 ≤ (leastA (c.wide k)).2) ∧ (leastA (c.wide k)).1 ≤ (leastA c).1) ∨ ((leastA c).2 ≤ 10 ∧ 10 ≤ (leastA c).2) := by
  have hl := least_wide hw
  rw [leastA, leastA, if_pos hv, if_pos hw]
  by_cases hd : leastC c < 1048576
  · have hd' : leastC (c.wide k) < 1048576 := by omega
    rw [if_pos hd, if_pos hd']
    exact .inl ⟨⟨Int.le_refl _, Int.le_refl _⟩, ⟨Int.le_refl _, Int.le_refl _⟩, hl⟩
  · rw [if_neg hd]
    exact .inr ⟨Int.le_refl _, Int.le_refl _⟩
end Go.Proofs.Ytagdholenfkeaaa

/- The first break of a plate, and the ways, as the statement ChainBreaks asks. -/
namespace Go.Proofs.Ytagdholenfkeaaa
open Go.Gh
set_option maxRecDepth 100000
/-- The first record that names another one than the holder, of the first k; -1: none. -/
def fbN (x : Int) (rs : List Rc) : Nat → Int
  | 0 => -1
  | k + 1 => match rs[k]? with
    | some r => if r.p = x ∧ ¬ holN x rs k = r.f ∧ fbN x rs k < 0 then (k : Int) else fbN x rs k
    | none => fbN x rs k
section
variable {x : Int} {rs : List Rc}
theorem fb_in : ∀ k, -1 ≤ fbN x rs k ∧ fbN x rs k < k
  | 0 => by simp [fbN]
  | k + 1 => by
    have := fb_in k
    simp only [fbN]
    split
    · split <;> omega
    · omega
theorem fb_new {k : Nat} {r : Rc} (hr : rs[k]? = some r) (h1 : r.p = x) (h2 : ¬ holN x rs k = r.f) (h3 : fbN x rs k < 0) : fbN x rs (k + 1) = k := by
  simp only [fbN, hr]; rw [if_pos ⟨h1, h2, h3⟩]
theorem fb_skip {k : Nat} {r : Rc} (hr : rs[k]? = some r) (h1 : ¬ r.p = x) : fbN x rs (k + 1) = fbN x rs k := by
  simp only [fbN, hr]; rw [if_neg fun h => h1 h.1]
theorem fb_same {k : Nat} {r : Rc} (hr : rs[k]? = some r) (h2 : holN x rs k = r.f) : fbN x rs (k + 1) = fbN x rs k := by
  simp only [fbN, hr]; rw [if_neg fun h => h.2.1 h2]
theorem fb_has {k : Nat} {r : Rc} (hr : rs[k]? = some r) (h3 : ¬ fbN x rs k < 0) : fbN x rs (k + 1) = fbN x rs k := by
  simp only [fbN, hr]; rw [if_neg fun h => h3 h.2.2]
end
theorem fb_find {c : Ch} {x : Int} : ∀ m, m ≤ c.rs.length → ((selN x (allS c.rs.length) c.rs m).find? fun e => !decide (holN x c.rs e.1 = e.2.f)).map (·.1) = if fbN x c.rs m < 0 then none else some (fbN x c.rs m).toNat
  | 0, _ => by simp [selN, fbN]
  | m + 1, h => by
    have ih := fb_find (c := c) (x := x) m (by omega)
    have hb := all_bit (n := c.rs.length) (i := m) (by omega)
    obtain ⟨r, hr⟩ : ∃ r, c.rs[m]? = some r := ⟨c.rs[m], List.getElem?_eq_getElem _⟩
    by_cases h1 : r.p = x
    · rw [sel_next hr h1 hb, List.find?_append]
      by_cases h3 : fbN x c.rs m < 0
      · rw [if_pos h3, Option.map_eq_none_iff] at ih
        rw [ih, Option.none_or]
        by_cases h2 : holN x c.rs m = r.f
        · rw [fb_same hr h2, if_pos h3, List.find?_cons_of_neg (by simp [h2])]; rfl
        · rw [fb_new hr h1 h2 h3, if_neg (by omega), List.find?_cons_of_pos (by simp [h2])]; simp
      · rw [if_neg h3] at ih
        rw [fb_has hr h3, if_neg h3, ← ih]
        cases hf : (selN x (allS c.rs.length) c.rs m).find? fun e => !decide (holN x c.rs e.1 = e.2.f) with
        | none => rw [hf] at ih; simp at ih
        | some e => rfl
    · rw [sel_skip1 hr h1, fb_skip hr h1, ih]
theorem brkV_fb (c : Ch) (x : Int) : brkV c x = if fbN x c.rs c.rs.length < 0 then (0, 4) else (fbN x c.rs c.rs.length, 0) := by
  have h := fb_find (c := c) (x := x) c.rs.length (Nat.le_refl _)
  have hi := fb_in (x := x) (rs := c.rs) c.rs.length
  by_cases h3 : fbN x c.rs c.rs.length < 0
  · rw [if_pos h3] at h ⊢
    exact brkV_none h
  · rw [if_neg h3] at h ⊢
    rw [brkV_some h]
    exact Prod.ext (by simp only; omega) rfl
/-! No break, and nothing to be unwritten -/
theorem hol_take {x : Int} {rs : List Rc} {n : Nat} : ∀ k, k ≤ n → holN x (rs.take n) k = holN x rs k
  | 0, _ => rfl
  | k + 1, h => by
    simp only [holN]
    rw [List.getElem?_take, if_pos (by omega), hol_take k (by omega)]
theorem fb_tot {c : Ch} (hv : c.valid = true) (x : Int) : ∀ k, k ≤ c.rs.length → (totV (D (eF c.kn (-1))) (stepsL (selN x (allS (c.rs.take k).length) (c.rs.take k) (c.rs.take k).length)) = 0 ↔ fbN x c.rs k < 0)
  | 0, _ => by simp [fbN, selN, stepsL, toL, totV, leastV]
  | k + 1, h => by
    have ih := fb_tot hv x k (by omega)
    obtain ⟨r, hr⟩ : ∃ r, c.rs[k]? = some r := ⟨c.rs[k], List.getElem?_eq_getElem _⟩
    have hl : (c.rs.take k).length = k := by rw [List.length_take]; omega
    have hnn := totV_in (D_ok (eF c.kn (-1))) (stepsL (selN x (allS (c.rs.take k).length) (c.rs.take k) (c.rs.take k).length))
    rw [take_snoc hr, tot_snoc, hl, hol_take k (Nat.le_refl _)]
    rw [hl] at ih hnn
    by_cases h1 : r.p = x
    · rw [if_pos h1]
      have hri := valid_rs hv (List.mem_of_getElem? hr)
      have hhl := hol_lt hv (p := x) k
      have hd := (D_ok (eF c.kn (-1))).nn (holN x c.rs k).toNat r.f.toNat
      by_cases h2 : holN x c.rs k = r.f
      · rw [fb_same hr h2, h2, (D_ok (eF c.kn (-1))).zz]
        rw [← ih]; omega
      · have hd0 : ¬ D (eF c.kn (-1)) (holN x c.rs k).toNat r.f.toNat ≤ 0 := fun h0 => by
          have := D_zero h0; omega
        by_cases h3 : fbN x c.rs k < 0
        · rw [fb_new hr h1 h2 h3]
          constructor
          · intro h; omega
          · intro h; omega
        · rw [fb_has hr h3]
          have := mt ih.1 h3
          constructor
          · intro h; omega
          · intro h; omega
    · rw [if_neg h1, fb_skip hr h1, Int.add_zero]; exact ih
/-- Has none of the first k plates a break? -/
def nbr (c : Ch) : Nat → Bool
  | 0 => true
  | k + 1 => nbr c k && decide ((brkV c (k : Nat)).2 = 4)
theorem nbr_all {c : Ch} (hv : c.valid = true) : ∀ k, (nbr c k = true ↔ allV (D (eF c.kn (-1))) c.rs (allS c.rs.length) k = 0)
  | 0 => by simp [nbr, allV]
  | k + 1 => by
    have ih := nbr_all hv k
    have hn := valid_num hv
    have h1 := (allV_in (D_ok (eF c.kn (-1))) c.rs (allS c.rs.length) (by omega) k).1
    have h2 := totV_in (D_ok (eF c.kn (-1))) (stepsL (selN (k : Nat) (allS c.rs.length) c.rs c.rs.length))
    have h3 := fb_tot hv (k : Nat) c.rs.length (Nat.le_refl _)
    rw [List.take_length] at h3
    have h4 : (brkV c (k : Nat)).2 = 4 ↔ fbN (k : Nat) c.rs c.rs.length < 0 := by
      rw [brkV_fb]
      by_cases h : fbN (k : Nat) c.rs c.rs.length < 0
      · rw [if_pos h]; simp [h]
      · rw [if_neg h]; simp [h]
    simp only [nbr, allV, Bool.and_eq_true, decide_eq_true_eq]
    rw [ih, h4, ← h3]
    omega
theorem nbr_least {c : Ch} (hv : c.valid = true) : nbr c c.pl.toNat = decide (leastC c = 0) :=
  Bool.eq_iff_iff.2 ((nbr_all hv _).trans decide_eq_true_iff.symm)
/-! Ways -/
def wayL (kn : List Kw) : List Nat → Nat → Nat → Prop
  | [], _, _ => False
  | [x], a, b => x = a ∧ x = b
  | x :: y :: l, a, b => x = a ∧ knowI kn x y = true ∧ wayL kn (y :: l) y b
section
variable {kn : List Kw}
theorem wayL_head : ∀ {l : List Nat} {a b : Nat}, wayL kn l a b → l[0]? = some a ∧ 1 ≤ l.length
  | [x], a, b, h => by obtain ⟨rfl, _⟩ := h; exact ⟨rfl, Nat.le_refl _⟩
  | x :: y :: l, a, b, h => by obtain ⟨rfl, _⟩ := h; exact ⟨rfl, by simp⟩
theorem wayL_last : ∀ {l : List Nat} {a b : Nat}, wayL kn l a b → l[l.length - 1]? = some b
  | [x], a, b, h => by obtain ⟨_, rfl⟩ := h; rfl
  | x :: y :: l, a, b, h => by
    have := wayL_last h.2.2
    simp only [List.length_cons, Nat.add_sub_cancel] at this ⊢
    rw [List.getElem?_cons_succ]; exact this
theorem wayL_step : ∀ {l : List Nat} {a b : Nat}, wayL kn l a b → ∀ {i u v : Nat}, l[i]? = some u → l[i + 1]? = some v → knowI kn u v = true
  | [x], a, b, h, i, u, v, h1, h2 => by simp at h2
  | x :: y :: l, a, b, h, 0, u, v, h1, h2 => by
    simp only [List.getElem?_cons_zero, List.getElem?_cons_succ, Option.some.injEq] at h1 h2
    subst h1 h2; exact h.2.1
  | x :: y :: l, a, b, h, i + 1, u, v, h1, h2 => by
    rw [List.getElem?_cons_succ] at h1 h2
    exact wayL_step h.2.2 h1 h2
theorem wayL_snoc : ∀ {l : List Nat} {a b u : Nat}, wayL kn l a b → knowI kn b u = true → wayL kn (l ++ [u]) a u
  | [x], a, b, u, h, hu => by obtain ⟨rfl, rfl⟩ := h; exact ⟨rfl, hu, rfl, rfl⟩
  | x :: y :: l, a, b, u, h, hu => ⟨h.1, h.2.1, wayL_snoc h.2.2 hu⟩
theorem wayL_wk : ∀ {l : List Nat} {a b : Nat}, wayL kn l a b → Wk (kE kn) (l.length - 1) a b
  | [x], a, b, h => by obtain ⟨rfl, rfl⟩ := h; rfl
  | x :: y :: l, a, b, h => by
    obtain ⟨rfl, h1, h2⟩ := h
    exact ⟨y, h1, wayL_wk h2⟩
theorem pathL_head {f : Mx} {P dst : Nat} : ∀ n a, (pathL kn f P dst n a)[0]? = some a
  | 0, a => rfl
  | n + 1, a => by simp only [pathL]; split <;> rfl
theorem find_all {p : Nat → Bool} {P k : Nat} (h : (List.range P).find? p = some k) : p k = true ∧ k < P ∧ ∀ i, i < k → p i = false := by
  refine ⟨List.find?_some h, List.mem_range.1 (List.mem_of_find?_eq_some h), fun i hi => ?_⟩
  cases hp : p i with
  | false => rfl
  | true =>
    exfalso
    have h0 := List.mem_range.1 (List.mem_of_find?_eq_some h)
    obtain ⟨j, hj, hj1, hj2⟩ := least_nat (p := p) P ⟨i, by omega, hp⟩
    have := find_first hj hj2 hj1
    rw [this] at h
    cases h
    rw [hj2 i hi] at hp; cases hp
variable {P : Nat} (he : ∀ a b, kE kn a b = true → a < P ∧ b < P) (hP : P ≤ 8)
include he hP
theorem pathL_way {dst : Nat} : ∀ n a, D (kE kn) a dst < NEV → D (kE kn) a dst = (n : Nat) → wayL kn (pathL kn (D (kE kn)) P dst n a) a dst := by
  intro n
  induction n with
  | zero =>
    intro a hl h
    exact ⟨rfl, D_zero (show D (kE kn) a dst ≤ 0 by omega)⟩
  | succ n ih =>
    intro a hl h
    obtain ⟨j, hj, hq⟩ := nxt_some he hP hl h
    cases hk : (List.range P).find? (nxtQ kn (D (kE kn)) dst a) with
    | none => exact absurd hq (List.find?_eq_none.1 hk j (List.mem_range.2 hj))
    | some k =>
      have h1 := List.find?_some hk
      simp only [nxtQ, Bool.and_eq_true, decide_eq_true_eq] at h1
      have h2 := ih k (by omega) (by omega)
      simp only [pathL, hk]
      have h3 := pathL_head (kn := kn) (f := D (kE kn)) (P := P) (dst := dst) n k
      cases hL : pathL kn (D (kE kn)) P dst n k with
      | nil => rw [hL] at h3; cases h3
      | cons z l =>
        rw [hL] at h3 h2
        simp only [List.getElem?_cons_zero, Option.some.injEq] at h3
        subst h3
        exact ⟨rfl, h1.1, h2⟩
theorem way_far {l : List Nat} {a b : Nat} (h : wayL kn l a b) : D (kE kn) a b ≤ ((l.length - 1 : Nat) : Int) := D_walk (fun a b h => by have := he a b h; omega) (wayL_wk h)
/-- No way of as many comes before. -/
theorem pathL_first {dst : Nat} : ∀ (n a : Nat) (M : List Nat), D (kE kn) a dst < NEV → D (kE kn) a dst = (n : Nat) → wayL kn M a dst → M.length = n + 1 → ∀ i u v : Nat, (∀ j : Nat, j < i → M[j]? = (pathL kn (D (kE kn)) P dst n a)[j]?) → (pathL kn (D (kE kn)) P dst n a)[i]? = some u → M[i]? = some v → u ≤ v := by
  intro n
  induction n with
  | zero =>
    intro a M hl h hw hM i u v hj hu hv
    cases i with
    | zero =>
      rw [(wayL_head hw).1] at hv
      simp only [pathL, List.getElem?_cons_zero, Option.some.injEq] at hu hv
      omega
    | succ i => simp [pathL] at hu
  | succ n ih =>
    intro a M hl h hw hM i u v hj hu hv
    obtain ⟨j, hjP, hq⟩ := nxt_some he hP hl h
    match M, hw, hM with
    | x :: y :: l, hw, hM =>
      obtain ⟨rfl, h1, h2⟩ := hw
      have h3 := way_far he hP h2
      simp only [List.length_cons, Nat.add_sub_cancel] at h3 hM
      have h4 := D_tri (kE kn) (y := y) (by have := he x y h1; omega) x dst
      have h5 : D (kE kn) x y ≤ 1 := D_edge h1
      have hy : nxtQ kn (D (kE kn)) dst x y = true := nxt_t h1 (by omega)
      cases hk : (List.range P).find? (nxtQ kn (D (kE kn)) dst x) with
      | none => exact absurd hq (List.find?_eq_none.1 hk j (List.mem_range.2 hjP))
      | some k =>
        obtain ⟨hk1, hk2, hk3⟩ := find_all hk
        have hky : k ≤ y := by
          rcases Nat.lt_or_ge y k with g | g
          · have := hk3 y g; rw [this] at hy; cases hy
          · exact g
        simp only [nxtQ, Bool.and_eq_true, decide_eq_true_eq] at hk1
        simp only [pathL, hk] at hj hu
        have hd := pathL_head (kn := kn) (f := D (kE kn)) (P := P) (dst := dst) n k
        cases i with
        | zero => simp only [List.getElem?_cons_zero, Option.some.injEq] at hu hv; omega
        | succ i =>
          rw [List.getElem?_cons_succ] at hu hv
          cases i with
          | zero =>
            rw [hd] at hu
            simp only [List.getElem?_cons_zero, Option.some.injEq] at hu hv
            omega
          | succ i =>
            have e1 := hj 1 (by omega)
            rw [List.getElem?_cons_succ, List.getElem?_cons_succ, hd, List.getElem?_cons_zero, Option.some.injEq] at e1
            subst e1
            refine ih y (y :: l) (by omega) (by omega) h2 (by simp only [List.length_cons]; omega) (i + 1) u v (fun j hj2 => ?_) hu hv
            have := hj (j + 1) (by omega)
            rwa [List.getElem?_cons_succ, List.getElem?_cons_succ] at this
end
/-- What the program says of a record's way. -/
def Way (c : Ch) (p : Int) (k : Nat) (r : Rc) : Prop :=
  ((pathA c p k).2 ≤ 0 ∧ 0 ≤ (pathA c p k).2 ∧ wayL c.kn (pathA c p k).1 (holN p c.rs k).toNat r.f.toNat ∧ (∀ M, wayL c.kn M (holN p c.rs k).toNat r.f.toNat → (pathA c p k).1.length ≤ M.length ∧ (M.length ≤ (pathA c p k).1.length → ∀ i u v : Nat, (∀ j : Nat, j < i → M[j]? = (pathA c p k).1[j]?) → (pathA c p k).1[i]? = some u → M[i]? = some v → u ≤ v))) ∨
  ((pathA c p k).2 ≤ 4 ∧ 4 ≤ (pathA c p k).2 ∧ (pathA c p k).1 = [] ∧ ¬ holN p c.rs k = r.f ∧ ∀ M, wayL c.kn M (holN p c.rs k).toNat r.f.toNat → 1048576 < M.length)
theorem path_say {c : Ch} (hv : c.valid = true) {p : Int} {k : Nat} {r : Rc} (hp : inQ p c.pl = true) (hr : c.rs[k]? = some r) (hrp : r.p = p) : Way c p k r := by
  have hn := valid_num hv
  have hk : k < c.rs.length := (List.getElem?_eq_some_iff.1 hr).1
  have hq : pathQ c p (k : Nat) = true := by
    simp only [pathQ, hp, Int.toNat_natCast, hr]
    rw [decide_eq_true (by omega), decide_eq_true (by omega), decide_eq_true hrp]; rfl
  have hri := valid_rs hv (List.mem_of_getElem? hr)
  have hhl := hol_lt hv (p := p) k
  have hd := (D_ok (eF c.kn (-1))).nn (holN p c.rs k).toNat r.f.toNat
  have e : pathA c p (k : Nat) = if (D (eF c.kn (-1))) (holN p c.rs k).toNat r.f.toNat < 1048576 then (pathL c.kn (D (eF c.kn (-1))) c.ps.toNat r.f.toNat ((D (eF c.kn (-1))) (holN p c.rs k).toNat r.f.toNat).toNat (holN p c.rs k).toNat, 0) else ([], 4) := by
    rw [pathA, if_pos hv, if_pos hq]
    simp only [Int.toNat_natCast, hr]
  unfold Way
  rw [e]
  rw [eF_kE] at hd ⊢
  have he := kE_in hv
  by_cases hl : D (kE c.kn) (holN p c.rs k).toNat r.f.toNat < 1048576
  · simp only [if_pos hl]
    refine .inl ⟨Int.le_refl _, Int.le_refl _, pathL_way he (by omega) _ _ hl (by omega), fun M hM => ?_⟩
    have hfar := way_far he (by omega) hM
    have hh := (wayL_head hM).2
    have hlen := pathL_all he (by omega) _ _ hl (show D (kE c.kn) (holN p c.rs k).toNat r.f.toNat = (((D (kE c.kn) (holN p c.rs k).toNat r.f.toNat).toNat : Nat) : Int) by omega)
    rw [hlen]
    exact ⟨by omega, fun hM2 => pathL_first he (by omega) _ _ M hl (by omega) hM (by omega)⟩
  · simp only [if_neg hl]
    refine .inr ⟨Int.le_refl _, Int.le_refl _, trivial, fun h0 => hl ?_, fun M hM => ?_⟩
    · rw [h0, (D_ok (kE c.kn)).zz]; omega
    · have hfar := way_far he (by omega) hM
      omega
end Go.Proofs.Ytagdholenfkeaaa

/- The table of pairs, and what the walk of ChainBreaks reads of ways. -/
namespace Go.Proofs.Ytagdholenfkeaaa
open Go.Gh
set_option maxRecDepth 100000
theorem key_iff {a b c e : Int} : geq Try.prog 6 50 (.agg [.int .i64 a, .int .i64 b]) (.agg [.int .i64 c, .int .i64 e]) = some true ↔ a = c ∧ b = e := by
  rw [geq_pair]
  simp only [Option.some.injEq, Bool.and_true, Bool.and_eq_true, decide_eq_true_eq]
theorem keys50 {a b : Int} {es : List (P × P)} (h : PK es) : keysOk (geq Try.prog 6 50) (.agg [.int .i64 a, .int .i64 b]) es := by
  refine ⟨by rw [geq_pair]; rfl, fun x hx => ?_⟩
  obtain ⟨c, e, hc⟩ := h x hx
  rw [hc]
  refine ⟨by rw [geq_pair]; rfl, fun hh => ?_⟩
  obtain ⟨rfl, rfl⟩ := key_iff.1 hh
  rfl
theorem get_put {a b c e : Int} {v : P} : ∀ {es : List (P × P)}, PK es → mapGet (geq Try.prog 6 50) (.agg [.int .i64 a, .int .i64 b]) (mapPut (geq Try.prog 6 50) (.agg [.int .i64 c, .int .i64 e]) v es) = if a = c ∧ b = e then some v else mapGet (geq Try.prog 6 50) (.agg [.int .i64 a, .int .i64 b]) es
  | [], _ => by
    simp only [mapPut, mapGet, key_iff]
  | (k1, v1) :: es, h => by
    obtain ⟨c1, e1, hk⟩ := h (k1, v1) List.mem_cons_self
    simp only at hk
    subst hk
    have ih := get_put (a := a) (b := b) (c := c) (e := e) (v := v) (es := es) fun y hy => h y (List.mem_cons_of_mem _ hy)
    simp only [mapPut, key_iff]
    by_cases h1 : c = c1 ∧ e = e1
    · rw [if_pos h1]
      obtain ⟨rfl, rfl⟩ := h1
      simp only [mapGet, key_iff]
      by_cases h2 : a = c ∧ b = e
      · rw [if_pos h2, if_pos h2]
      · rw [if_neg h2, if_neg h2, if_neg h2]
    · rw [if_neg h1]
      simp only [mapGet, key_iff, ih]
      by_cases h2 : a = c ∧ b = e
      · obtain ⟨rfl, rfl⟩ := h2
        rw [if_neg h1, if_pos ⟨rfl, rfl⟩, if_pos ⟨rfl, rfl⟩]
      · rw [if_neg h2, if_neg h2]
/-- The table of the first pairs, both ways. -/
noncomputable def putK (es : List (P × P)) (z : Kw) : List (P × P) := mapPut (geq Try.prog 6 50) (.agg [.int .i64 z.b, .int .i64 z.a]) (.bool true) (mapPut (geq Try.prog 6 50) (.agg [.int .i64 z.a, .int .i64 z.b]) (.bool true) es)
noncomputable def mapK (l : List Kw) : List (P × P) := l.foldl putK []
theorem mapK_next {l : List Kw} {k : Nat} {a b : Int} (h : l[k]? = some ⟨a, b⟩) : mapK (l.take (k + 1)) = mapPut (geq Try.prog 6 50) (.agg [.int .i64 b, .int .i64 a]) (.bool true) (mapPut (geq Try.prog 6 50) (.agg [.int .i64 a, .int .i64 b]) (.bool true) (mapK (l.take k))) := by
  rw [take_snoc h, mapK, List.foldl_append]; rfl
theorem putK_PK {es : List (P × P)} (h : PK es) (z : Kw) : PK (putK es z) := PK_put (PK_put h)
theorem foldK_PK : ∀ (l : List Kw) {es : List (P × P)}, PK es → PK (l.foldl putK es)
  | [], _, h => h
  | z :: l, _, h => foldK_PK l (putK_PK h z)
theorem mapK_PK (l : List Kw) : PK (mapK l) := foldK_PK l PK_nil
theorem foldK_get {a b : Int} : ∀ (l : List Kw) {es : List (P × P)}, PK es → mapGet (geq Try.prog 6 50) (.agg [.int .i64 a, .int .i64 b]) (l.foldl putK es) = if knowI l a b = true then some (.bool true) else mapGet (geq Try.prog 6 50) (.agg [.int .i64 a, .int .i64 b]) es
  | [], es, h => by simp [knowI]
  | z :: l, es, h => by
    rw [List.foldl_cons, foldK_get l (putK_PK h z), putK, get_put (PK_put h), get_put h]
    have e : knowI (z :: l) a b = (knowQ a b z || knowI l a b) := rfl
    rw [e]
    by_cases h1 : knowI l a b = true
    · rw [if_pos h1, h1, Bool.or_true, if_pos rfl]
    · rw [if_neg h1, show knowI l a b = false by simpa using h1, Bool.or_false]
      by_cases h2 : knowQ a b z = true
      · rw [if_pos h2]
        simp only [knowQ, Bool.or_eq_true, Bool.and_eq_true, decide_eq_true_eq] at h2
        by_cases h3 : a = z.b ∧ b = z.a
        · rw [if_pos h3]
        · rw [if_neg h3, if_pos (by omega)]
      · rw [if_neg h2]
        simp only [knowQ, Bool.or_eq_true, Bool.and_eq_true, decide_eq_true_eq] at h2
        rw [if_neg (by omega), if_neg (by omega)]
theorem look_K (l : List Kw) (a b : Int) : orZero (some (.p (.bool false))) (mapGet (geq Try.prog 6 50) (.agg [.int .i64 a, .int .i64 b]) (mapK l)) = some (knowI l a b, .p (.bool (knowI l a b))) := by
  rw [mapK, foldK_get l PK_nil]
  cases h : knowI l a b
  · rfl
  · rfl
/-! Lists of numbers -/
theorem int_at {l : List Nat} {i v : Nat} (h : l[i]? = some v) : (intL l)[i]? = some (.int .i64 (v : Nat)) := by rw [intL, List.getElem?_map, h]; rfl
theorem int_last {l : List Nat} {v : Nat} {n : Int} (hn : (l.length : Int) ≤ n ∧ n ≤ l.length) (h : l[l.length - 1]? = some v) : (intL l)[(n - 1).toNat]? = some (.int .i64 (v : Nat)) := by
  rw [show (n - 1).toNat = l.length - 1 by omega]; exact int_at h
theorem int_snoc (l : List Nat) (u : Nat) : intL (l ++ [u]) = intL l ++ [.int .i64 (u : Nat)] := by simp [intL]
theorem path_not {c : Ch} (hv : c.valid = true) {p : Int} {k : Nat} {r : Rc} (hr : c.rs[k]? = some r) (hrp : ¬ r.p = p) : (pathA c p k).2 ≤ 2 ∧ 2 ≤ (pathA c p k).2 := by
  have hq : ¬ pathQ c p (k : Nat) = true := by
    simp only [pathQ, Int.toNat_natCast, hr]
    rw [decide_eq_false hrp, Bool.and_false]; simp
  rw [pathA, if_pos hv, if_neg hq]
  exact ⟨Int.le_refl _, Int.le_refl _⟩
theorem hol_next {p : Int} {rs : List Rc} {k : Nat} {r : Rc} (hr : rs[k]? = some r) (h : r.p = p) : holN p rs (k + 1) = r.t := by
  simp only [holN, hr]; rw [if_pos h]
end Go.Proofs.Ytagdholenfkeaaa
