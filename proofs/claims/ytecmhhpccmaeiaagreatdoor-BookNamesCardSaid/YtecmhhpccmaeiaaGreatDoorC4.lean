/- What functions of the program return, each for every input that its theorem names. Made small by a program of ours. -/
import Derived.Test.YtecmhhpccmaeiaaGreatDoorC3
set_option linter.unusedVariables false
set_option linter.unusedSimpArgs false
set_option maxRecDepth 100000
set_option maxHeartbeats 4000000
namespace Go.Proofs.YtecmhhpccmaeiaaGreatDoor
section
open Go.Gh
variable {E : Env Tryz.prog} {A : E.α}
structure tP (c : Prop) : Prop where
 h : c := by (first | exact True.intro | omega | (simp only [inI]; omega) | ((repeat' apply And.intro) <;> (first | trivial | omega | (simp only [bU, List.length_cons]; omega) | exact dQ _ | exact dQ (_ :: _) | (simp only [inI]; omega)); done) | (have := dQ; simp [P.size, bU, inI] <;> first | omega | exact this _ | exact ⟨this _, by omega⟩ | assumption | grind))
theorem aNs (x y : Nat) (hx : x < 18446744073709551616) (hy : y < 18446744073709551616) : oV .or .u64 (x : Int) (y : Int) = ((x ||| y : Nat) : Int) := by
 have e1 : (BitVec.ofInt 64 (x : Int)).toNat = x := by rw [BitVec.toNat_ofInt]; omega
 have e2 : (BitVec.ofInt 64 (y : Int)).toNat = y := by rw [BitVec.toNat_ofInt]; omega
 have h : (x ||| y) < 2 ^ 64 := Nat.or_lt_two_pow hx hy
 show IntKind.u64.wrap ((BitVec.ofInt 64 (x : Int) ||| BitVec.ofInt 64 (y : Int)).toNat : Int) = _
 rw [BitVec.toNat_or, e1, e2]
 exact IntWalk.u64_in ((x ||| y : Nat) : Int) (by omega)
theorem aLa (x : Nat) (hx : x < 18446744073709551616) : oV .and .u64 (x : Int) 1 = ((x % 2 : Nat) : Int) := by
 have e1 : (BitVec.ofInt 64 (x : Int)).toNat = x := by rw [BitVec.toNat_ofInt]; omega
 have e2 : (BitVec.ofInt 64 (1 : Int)).toNat = 1 := by decide
 show IntKind.u64.wrap ((BitVec.ofInt 64 (x : Int) &&& BitVec.ofInt 64 (1 : Int)).toNat : Int) = _
 rw [BitVec.toNat_and, e1, e2, Nat.and_one_is_mod]
 exact IntWalk.u64_in ((x % 2 : Nat) : Int) (by omega)
theorem aJy {acc b k : Nat} (ha : acc < 2 ^ (7 * k)) (hk : k < 6) : oV .or .u64 (acc : Int) (IntKind.u64.wrap (IntKind.u64.wrap ((b : Int).tmod 128) * 2 ^ min (7 * k) IntKind.u64.bits)) = ((acc + b % 128 * 2 ^ (7 * k) : Nat) : Int) := by
 have e0 : (b : Int).tmod 128 = ((b % 128 : Nat) : Int) := by rw [Int.tmod_eq_emod_of_nonneg (by omega)]; omega
 have hp : 2 ^ (7 * k) ≤ 2 ^ 35 := Nat.pow_le_pow_right (by decide) (by omega)
 have h35 : (2 : Nat) ^ 35 = 34359738368 := by decide
 have hm : b % 128 * 2 ^ (7 * k) ≤ 127 * 2 ^ 35 := Nat.mul_le_mul (by omega) hp
 have e1 : (2 : Int) ^ min (7 * k) IntKind.u64.bits = ((2 ^ (7 * k) : Nat) : Int) := by
  have : min (7 * k) IntKind.u64.bits = 7 * k := Nat.min_eq_left (by show 7 * k ≤ 64; omega)
  rw [this]; simp
 rw [e0, e1, IntWalk.u64_in ((b % 128 : Nat) : Int) (by omega), ← Int.natCast_mul, IntWalk.u64_in _ (by omega), aNs _ _ (by omega) (by omega)]
 congr 1
 have := Nat.shiftLeft_add_eq_or_of_lt ha (b % 128)
 rw [Nat.shiftLeft_eq] at this
 rw [Nat.or_comm, ← this, Nat.add_comm]
theorem aJz (n : Int) : IntKind.i64.wrap n = (n + 9223372036854775808) % 18446744073709551616 - 9223372036854775808 := by rw [IntKind.wrap_i64]
theorem aOq (u : Nat) : (u : Int).fdiv (2 ^ min 1 IntKind.u64.bits) = ((u / 2 : Nat) : Int) := by
 rw [show (2 : Int) ^ min 1 IntKind.u64.bits = 2 by decide, Int.fdiv_eq_ediv_of_nonneg _ (by omega)]
 omega
theorem aLb {u : Nat} (h : u < 4398046511104) : oV .xor .i64 ((u / 2 : Nat) : Int) (0 - ((u % 2 : Nat) : Int)) = unz u := by
 have e3 : (BitVec.ofInt 64 ((u / 2 : Nat) : Int)).toNat = u / 2 := by rw [BitVec.toNat_ofInt]; omega
 unfold unz
 show IntKind.i64.wrap ((BitVec.ofInt 64 ((u / 2 : Nat) : Int) ^^^ BitVec.ofInt 64 (0 - ((u % 2 : Nat) : Int))).toNat : Int) = _
 rw [BitVec.toNat_xor, e3]
 split
 ·rename_i h0
  rw [h0, show (BitVec.ofInt 64 (0 - ((0 : Nat) : Int))).toNat = 0 by decide, Nat.xor_zero, aJz]
  omega
 ·rename_i h0
  have h1 : u % 2 = 1 := by omega
  rw [h1, show (BitVec.ofInt 64 (0 - ((1 : Nat) : Int))).toNat = 18446744073709551615 by decide, aEg _ (by omega), aJz]
  omega
theorem aDc : ∀ {f sh u : Nat} {l : List UInt8} {z : Nat × List UInt8}, oP f sh u l = some z → u < 2 ^ sh → z.1 < 2 ^ (sh + 7 * f)
 | 0, _, _, _, _, h, _ => by simp [oP] at h
 | f + 1, sh, u, [], z, h, _ => by simp [oP] at h
 | f + 1, sh, u, b :: l, z, h, hu => by
  have hs : u + b.toNat % 128 * 2 ^ sh < 2 ^ (sh + 7) := by
   have h1 : b.toNat % 128 * 2 ^ sh ≤ 127 * 2 ^ sh := Nat.mul_le_mul_right _ (by omega)
   have h2 : (2 : Nat) ^ (sh + 7) = 128 * 2 ^ sh := by rw [Nat.pow_add]; omega
   omega
  rw [oP] at h
  split at h
  ·cases h
   exact Nat.lt_of_lt_of_le hs (Nat.pow_le_pow_right (by decide) (by omega))
  ·have := aDc h hs
   rwa [show sh + 7 * (f + 1) = sh + 7 + 7 * f by omega]
theorem aGq {l : List UInt8} {v : Int} {r : List UInt8} (h : nH l = some (v, r)) : -2199023255552 ≤ v ∧ v < 2199023255552 := by
 unfold nH at h
 cases e : oP 6 0 0 l with
 | none => rw [e] at h; cases h
 | some z =>
  rw [e] at h
  simp only [Option.some.injEq, Prod.mk.injEq] at h
  have := aDc e (by decide)
  rw [← h.1]
  unfold unz
  split <;> omega
def aCg : Nat → List UInt8 → List UInt8
 | 0, l => l
 | _ + 1, [] => []
 | f + 1, b :: l => if b.toNat < 128 then l else aCg f l
def aEl (l : List UInt8) : List UInt8 := aCg 6 l
def aJA (l : List UInt8) : List UInt8 := match nH l with
 | none => aEl l
 | some z => aEl z.2
theorem aEm {acc b k : Nat} (ha : acc < 2 ^ (7 * k)) : acc + b % 128 * 2 ^ (7 * k) < 2 ^ (7 * (k + 1)) := by
 have h1 : b % 128 * 2 ^ (7 * k) ≤ 127 * 2 ^ (7 * k) := Nat.mul_le_mul_right _ (by omega)
 have h2 : (2 : Nat) ^ (7 * (k + 1)) = 128 * 2 ^ (7 * k) := by rw [Nat.mul_add, Nat.pow_add]; omega
 omega
theorem zH : aJ Tryz.prog 79 := aJ.mk Tryz.func79 (by kernel_rfl) rfl
theorem aJB (l0 : List UInt8) (w : Nat) (r : List UInt8) (h : oP 6 0 0 l0 = some (w, r)) : Gh.bE E 79 [.ptr [.fn (.func 78) [] [.ref 0 0]]] (aG [(0, .cells [.p (.list (u8s l0))] 0)]) A (fun y => y = .ok (.p (.int .i64 (unz w))) (aG [(0, .cells [.p (.list (u8s r))] 0)]) A) := by
 refine spX 29 Tryz.func79 rfl ?_
 intro C hN hL
 simp only [Gh.num, List.map_cons, List.map_nil, Nat.reduceAdd]
 repeat apply aA
 apply aB
 refine v0 ?_
 apply aC
 refine cl [0] ?_
 repeat apply aA
 apply aB
 refine v0 ?_
 apply aC
 refine cl [0, 2] ?_
 repeat apply aA
 apply aB
 refine v0 ?_
 apply aC
 refine cl [0, 2, 3] ?_
 repeat apply aA
 refine aP ?_
 repeat apply aA
 refine cI (fun mz σ => ∃ (k acc : Nat) (l : List UInt8), (k ≤ 6) ∧ (acc < 2 ^ (7 * k)) ∧ (oP (6 - k) (7 * k) acc l = some (w, r)) ∧ mz = 6 - k ∧ σ = (sg [(0, .ptr [.fn (.func 78) [] [.ref 0 0]]), (2, .p (.int .u64 (acc : Nat))), (3, .p (.int .i64 ((7 * k : Nat) : Int)))] [(0, .cells [.p (.list (u8s l))] 0)] A [] : Sg E)) ?_ (fun mz σ hI => ?_)
 ·refine gA [0, 2, 3] ?_
  exact ⟨_, 0, 0, l0, by omega, by decide, h, rfl, rfl⟩
 obtain ⟨k, acc, l, hk, hac, hf, hnn, rfl⟩ := hI
 repeat apply aA
 refine aP ?_
 repeat apply aA
 have hk6 : k < 6 := by apply Nat.lt_of_not_le; intro h6; rw [show 6 - k = 0 by omega] at hf; simp [oP] at hf
 apply aB
 iterate 2 refine v0 ?_
 refine rb 8 true (h := by (first | with_reducible rfl | exact decide_eq_true (by omega) | rfl | decide)) ?_
 refine pc0 (spec := bG _) (hent := bX) ?_
 apply aC
 refine cl [0, 2, 3] ?_
 repeat apply aA
 obtain ⟨b, l, rfl⟩ : ∃ b r, l = b :: r := by cases l with | nil => (rw [show 6 - k = (6 - (k + 1)) + 1 by omega] at hf; simp [oP] at hf) | cons b r => exact ⟨b, r, rfl⟩
 have hb8 := UInt8.toNat_lt b
 apply aB
 refine v0 ?_
 refine oc0 [(0, 0)] [] [0] none (spec := oR b l) (hent := nA) ?_
 refine v0 ?_
 apply aC
 refine cl [0, 2, 3, 4] ?_
 repeat apply aA
 have hor := aJy (b := b.toNat) hac (by omega : k < 6)
 have hpn := aEm (b := b.toNat) hac
 apply aB
 iterate 2 refine v0 ?_
 iterate 2 refine v1 (hc := tP.h {}) ?_
 refine v0 ?_
 refine v1 (hc := tP.h {}) ?_
 iterate 2 refine v0 ?_
 apply aC
 refine cl [0, 2, 3, 4] ?_
 repeat apply aA
 apply aB
 iterate 2 refine v0 ?_
 apply aC
 repeat apply aA
 refine cB (k1 := fun hb1 => ?_) (k0 := fun hb1 => ?_)
 ·replace hb1 := hB.h {} hb1
  try rw [eqI] at hb1
  repeat apply aA
  have hk1 : 6 - k = (6 - (k + 1)) + 1 := by omega
  rw [hk1, oP, if_pos (by omega)] at hf
  simp only [Option.some.injEq, Prod.mk.injEq] at hf
  obtain ⟨hfw, rfl⟩ := hf
  rw [hfw]
  clear hor hpn
  have hw42 : w < 4398046511104 := aDc h (by decide)
  have hfd := aOq w
  have had := aLa w (by omega)
  have hxo := aLb hw42
  apply aB
  refine v0 ?_
  iterate 2 refine v1 (hc := tP.h {}) ?_
  iterate 2 refine v0 ?_
  iterate 2 refine v1 (hc := tP.h {}) ?_
  iterate 2 refine v0 ?_
  apply aC
  repeat apply aA
  refine aL ?_
  repeat (first | refine aH ?_ | refine aF ?_ | refine aD ?_)
  refine aM ?_
  refine fh [0] ?_
  rfl
 ·replace hb1 := hB.h {} hb1
  try rw [eqI] at hb1
  repeat apply aA
  refine aR ?_
  refine cl [0, 2, 3] ?_
  repeat apply aA
  apply aB
  refine v0 ?_
  refine v1 (hc := tP.h {}) ?_
  refine v0 ?_
  apply aC
  repeat refine bW ?_
  refine eC [0, 2, 3] (h := ?_) (hV := ?_) (n' := mz - 1)
  ·omega
  have hk1 : 6 - k = (6 - (k + 1)) + 1 := by omega
  refine ⟨k + 1, (acc + b.toNat % 128 * 2 ^ (7 * k)), l, by omega, hpn, ?_, by omega, sgE ?_ rfl⟩
  ·rw [hk1, oP, if_neg (by omega)] at hf; rw [show 7 * (k + 1) = 7 * k + 7 by omega]; exact hf
  ·rw [show ((7 * (k + 1) : Nat) : Int) = ((7 * k : Nat) : Int) + 7 by omega]
theorem aJC (l0 : List UInt8) (h : oP 6 0 0 l0 = none) : Gh.bE E 79 [.ptr [.fn (.func 78) [] [.ref 0 0]]] (aG [(0, .cells [.p (.list (u8s l0))] 0)]) A (fun y => y = .panic (.iface 218 (.agg [.int .i64 8])) (aG [(0, .cells [.p (.list (u8s (aCg 6 l0)))] 0)]) A) := by
 refine spX 29 Tryz.func79 rfl ?_
 intro C hN hL
 simp only [Gh.num, List.map_cons, List.map_nil, Nat.reduceAdd]
 repeat apply aA
 apply aB
 refine v0 ?_
 apply aC
 refine cl [0] ?_
 repeat apply aA
 apply aB
 refine v0 ?_
 apply aC
 refine cl [0, 2] ?_
 repeat apply aA
 apply aB
 refine v0 ?_
 apply aC
 refine cl [0, 2, 3] ?_
 repeat apply aA
 refine aP ?_
 repeat apply aA
 refine cI (fun mz σ => ∃ (k acc : Nat) (l : List UInt8), (k ≤ 6) ∧ (acc < 2 ^ (7 * k)) ∧ (oP (6 - k) (7 * k) acc l = none ∧ aCg (6 - k) l = aCg 6 l0) ∧ mz = 6 - k ∧ σ = (sg [(0, .ptr [.fn (.func 78) [] [.ref 0 0]]), (2, .p (.int .u64 (acc : Nat))), (3, .p (.int .i64 ((7 * k : Nat) : Int)))] [(0, .cells [.p (.list (u8s l))] 0)] A [] : Sg E)) ?_ (fun mz σ hI => ?_)
 ·refine gA [0, 2, 3] ?_
  exact ⟨_, 0, 0, l0, by omega, by decide, ⟨h, rfl⟩, rfl, rfl⟩
 obtain ⟨k, acc, l, hk, hac, ⟨hf, hre⟩, hnn, rfl⟩ := hI
 repeat apply aA
 refine aP ?_
 repeat apply aA
 have hcase : k = 6 ∨ (k < 6 ∧ l = []) ∨ (k < 6 ∧ ∃ b r, l = b :: r) := by
  cases l with
  | nil => exact (by omega : k = 6 ∨ k < 6).elim .inl fun h6 => .inr (.inl ⟨h6, rfl⟩)
  | cons b r =>
         rcases (by omega : k = 6 ∨ k < 6) with h6 | h6
         ·exact .inl h6
         ·exact .inr (.inr ⟨h6, b, r, rfl⟩)
 rcases hcase with h6 | ⟨hk6, h6⟩ | ⟨hk6, b, l, rfl⟩
 ·repeat apply aA
  apply aB
  iterate 2 refine v0 ?_
  refine rb 8 false (h := by (first | with_reducible rfl | exact decide_eq_false (by omega) | rfl | decide)) ?_
  refine pp0 (spec := dE _) (hent := bX) ?_
  repeat (first | refine aO ?_ | refine aN ?_ | refine aW ?_)
  refine fph [0] ?_
  rw [← hre, h6]
  rfl
 ·subst h6
  repeat apply aA
  apply aB
  iterate 2 refine v0 ?_
  refine rb 8 true (h := by (first | with_reducible rfl | exact decide_eq_true (by omega) | rfl | decide)) ?_
  refine pc0 (spec := bG _) (hent := bX) ?_
  apply aC
  refine cl [0, 2, 3] ?_
  repeat apply aA
  apply aB
  refine v0 ?_
  refine op0 [(0, 0)] [] [0] none (spec := aBj) (hent := nA) ?_
  repeat (first | refine aO ?_ | refine aN ?_ | refine aW ?_)
  refine fph [0] ?_
  rw [← hre, show 6 - k = (6 - (k + 1)) + 1 by omega]
  rfl
 ·have hb8 := UInt8.toNat_lt b
  have hk1 : 6 - k = (6 - (k + 1)) + 1 := by omega
  repeat apply aA
  apply aB
  iterate 2 refine v0 ?_
  refine rb 8 true (h := by (first | with_reducible rfl | exact decide_eq_true (by omega) | rfl | decide)) ?_
  refine pc0 (spec := bG _) (hent := bX) ?_
  apply aC
  refine cl [0, 2, 3] ?_
  repeat apply aA
  apply aB
  refine v0 ?_
  refine oc0 [(0, 0)] [] [0] none (spec := oR b l) (hent := nA) ?_
  refine v0 ?_
  apply aC
  refine cl [0, 2, 3, 4] ?_
  repeat apply aA
  have hor := aJy (b := b.toNat) hac (by omega : k < 6)
  have hpn := aEm (b := b.toNat) hac
  apply aB
  iterate 2 refine v0 ?_
  iterate 2 refine v1 (hc := tP.h {}) ?_
  refine v0 ?_
  refine v1 (hc := tP.h {}) ?_
  iterate 2 refine v0 ?_
  apply aC
  refine cl [0, 2, 3, 4] ?_
  repeat apply aA
  apply aB
  iterate 2 refine v0 ?_
  apply aC
  repeat apply aA
  refine cB (k1 := fun hb1 => ?_) (k0 := fun hb1 => ?_)
  ·replace hb1 := hB.h {} hb1
   try rw [eqI] at hb1
   repeat apply aA
   exfalso
   rw [hk1, oP, if_pos (by omega)] at hf
   cases hf
  ·replace hb1 := hB.h {} hb1
   try rw [eqI] at hb1
   repeat apply aA
   refine aR ?_
   refine cl [0, 2, 3] ?_
   repeat apply aA
   apply aB
   refine v0 ?_
   refine v1 (hc := tP.h {}) ?_
   refine v0 ?_
   apply aC
   repeat refine bW ?_
   refine eC [0, 2, 3] (h := ?_) (hV := ?_) (n' := mz - 1)
   ·omega
   refine ⟨k + 1, (acc + b.toNat % 128 * 2 ^ (7 * k)), l, by omega, hpn, ⟨?_, ?_⟩, by omega, sgE ?_ rfl⟩
   ·rw [hk1, oP, if_neg (by omega)] at hf; rw [show 7 * (k + 1) = 7 * k + 7 by omega]; exact hf
   ·rw [hk1, aCg, if_neg (by omega)] at hre; exact hre
   ·rw [show ((7 * (k + 1) : Nat) : Int) = ((7 * k : Nat) : Int) + 7 by omega]
theorem aEn (l : List UInt8) (v : Int) (r : List UInt8) (h : nH l = some (v, r)) : Gh.bE E 79 [.ptr [.fn (.func 78) [] [.ref 0 0]]] (aG [(0, .cells [.p (.list (u8s l))] 0)]) A (fun y => y = .ok (.p (.int .i64 v)) (aG [(0, .cells [.p (.list (u8s r))] 0)]) A) := by
 unfold nH at h
 cases e : oP 6 0 0 l with
 | none => rw [e] at h; cases h
 | some z => rw [e] at h; cases h; exact aJB l z.1 z.2 e
theorem aJD (l : List UInt8) (h : nH l = none) : Gh.bE E 79 [.ptr [.fn (.func 78) [] [.ref 0 0]]] (aG [(0, .cells [.p (.list (u8s l))] 0)]) A (fun y => y = .panic (.iface 218 (.agg [.int .i64 8])) (aG [(0, .cells [.p (.list (u8s (aEl l)))] 0)]) A) := by
 unfold nH at h
 cases e : oP 6 0 0 l with
 | none => exact aJC l e
 | some z => rw [e] at h; cases h
theorem wY : aJ Tryz.prog 80 := aJ.mk Tryz.func80 (by kernel_rfl) rfl
theorem aNt (l : List UInt8) (v w : Int) (r q : List UInt8) (h1 : nH l = some (v, r)) (h2 : nH r = some (w, q)) : Gh.bE E 80 [.ptr [.fn (.func 79) [] [.ptr [.fn (.func 78) [] [.ref 0 0]]]]] (aG [(0, .cells [.p (.list (u8s l))] 0)]) A (fun y => y = .ok (.p (.agg [.int .i64 v, .int .i64 (v + w)])) (aG [(0, .cells [.p (.list (u8s q))] 0)]) A) := by
 refine spX 11 Tryz.func80 rfl ?_
 intro C hN hL
 simp only [Gh.num, List.map_cons, List.map_nil, Nat.reduceAdd]
 have hlt1 := aGq h1
 have hlt2 := aGq h2
 repeat apply aA
 apply aB
 refine n1 110 false (hc := tP.h {}) ?_
 apply aC
 refine cl [0, 1] ?_
 repeat apply aA
 apply aB
 refine v0 ?_
 refine oc0 [(0, 0)] [] [0] none (spec := aEn l v r h1) (hent := zH) ?_
 refine v0 ?_
 apply aC
 refine cl [0, 1, 2] ?_
 repeat apply aA
 apply aB
 iterate 3 refine v0 ?_
 refine oc0 [(0, 0)] [] [0] none (spec := aEn r w q h2) (hent := zH) ?_
 refine v1 (hc := tP.h {}) ?_
 refine v0 ?_
 refine s1 (hc := tP.h {}) ?_
 apply aC
 repeat apply aA
 refine aL ?_
 repeat (first | refine aH ?_ | refine aF ?_ | refine aD ?_)
 refine aM ?_
 refine fh [0] ?_
 rfl
theorem aLc (l : List UInt8) (h1 : nH l = none) : Gh.bE E 80 [.ptr [.fn (.func 79) [] [.ptr [.fn (.func 78) [] [.ref 0 0]]]]] (aG [(0, .cells [.p (.list (u8s l))] 0)]) A (fun y => y = .panic (.iface 218 (.agg [.int .i64 8])) (aG [(0, .cells [.p (.list (u8s (aEl l)))] 0)]) A) := by
 refine spX 11 Tryz.func80 rfl ?_
 intro C hN hL
 simp only [Gh.num, List.map_cons, List.map_nil, Nat.reduceAdd]
 repeat apply aA
 apply aB
 refine n1 110 false (hc := tP.h {}) ?_
 apply aC
 refine cl [0, 1] ?_
 repeat apply aA
 apply aB
 refine v0 ?_
 refine op0 [(0, 0)] [] [0] none (spec := aJD l h1) (hent := zH) ?_
 repeat (first | refine aO ?_ | refine aN ?_ | refine aW ?_)
 refine fph [0] ?_
 rfl
theorem aLd (l : List UInt8) (v : Int) (r : List UInt8) (h1 : nH l = some (v, r)) (h2 : nH r = none) : Gh.bE E 80 [.ptr [.fn (.func 79) [] [.ptr [.fn (.func 78) [] [.ref 0 0]]]]] (aG [(0, .cells [.p (.list (u8s l))] 0)]) A (fun y => y = .panic (.iface 218 (.agg [.int .i64 8])) (aG [(0, .cells [.p (.list (u8s (aEl r)))] 0)]) A) := by
 refine spX 11 Tryz.func80 rfl ?_
 intro C hN hL
 simp only [Gh.num, List.map_cons, List.map_nil, Nat.reduceAdd]
 repeat apply aA
 apply aB
 refine n1 110 false (hc := tP.h {}) ?_
 apply aC
 refine cl [0, 1] ?_
 repeat apply aA
 apply aB
 refine v0 ?_
 refine oc0 [(0, 0)] [] [0] none (spec := aEn l v r h1) (hent := zH) ?_
 refine v0 ?_
 apply aC
 refine cl [0, 1, 2] ?_
 repeat apply aA
 apply aB
 iterate 3 refine v0 ?_
 refine op0 [(0, 0)] [] [0] none (spec := aJD r h2) (hent := zH) ?_
 repeat (first | refine aO ?_ | refine aN ?_ | refine aW ?_)
 refine fph [0] ?_
 rfl
theorem yL (l : List UInt8) (s : Int × Int) (r : List UInt8) (h : fU l = some (s, r)) : Gh.bE E 80 [.ptr [.fn (.func 79) [] [.ptr [.fn (.func 78) [] [.ref 0 0]]]]] (aG [(0, .cells [.p (.list (u8s l))] 0)]) A (fun y => y = .ok (.p (.agg [.int .i64 s.1, .int .i64 s.2])) (aG [(0, .cells [.p (.list (u8s r))] 0)]) A) := by
 unfold fU at h
 split at h
 ·cases h
 ·rename_i z h1
  split at h
  ·cases h
  ·rename_i y h2
   cases h
   exact aNt l z.1 y.1 z.2 y.2 h1 h2
theorem aFy (l : List UInt8) (h : fU l = none) : Gh.bE E 80 [.ptr [.fn (.func 79) [] [.ptr [.fn (.func 78) [] [.ref 0 0]]]]] (aG [(0, .cells [.p (.list (u8s l))] 0)]) A (fun y => y = .panic (.iface 218 (.agg [.int .i64 8])) (aG [(0, .cells [.p (.list (u8s (aJA l)))] 0)]) A) := by
 unfold fU at h
 unfold aJA
 split at h
 ·rename_i h1
  try rw [h1]
  exact aLc l h1
 ·rename_i z h1
  try rw [h1]
  split at h
  ·rename_i h2
   exact aLd l z.1 z.2 h1 h2
  ·cases h
end
section
open Go.Gh
variable {E : Env Tryz.prog} {A : E.α}
theorem aBk : aJ Tryz.prog 125 := aJ.mk Tryz.func125 (by kernel_rfl) rfl
theorem aHr (c0 c1 c2 c3 c4 : P) : kV E 125 [.ref 0 0, .ref 1 0] (aG [(0, .cells [.p (.int .i64 0)] 0), (1, .cells [.p c0, .p c1, .p c2, .p c3, .p c4] 0)]) A (none) (fun y => y = .ok (.p (.tuple [])) (aG [(0, .cells [.p (.int .i64 0)] 0), (1, .cells [.p c0, .p c1, .p c2, .p c3, .p c4] 0)]) A) := by
 refine fZ Tryz.func125 (some _) (rfl : Tryz.f125.body = some _) rfl rfl rfl (by decide) (Nat.le_of_ble_eq_true rfl) (fun id h => ?_) (fun j id h => ?_) ?_
 ·exact nD h
 ·exact nE h
 intro C hN hL
 replace hN : C.N = 8 := hN
 simp only [Gh.num, List.map_cons, List.map_nil, Nat.reduceAdd, pJ]
 refine oc0 [(0, 0)] [] [0, 0] none (spec := qU 0) (hent := sN) ?_
 apply aC
 refine (?_ : gwp C none _ _ (sg _ _ _ []))
 repeat apply aA
 apply aB
 iterate 2 refine v0 ?_
 refine rb 6 false (h := by (first | with_reducible rfl | exact decide_eq_false (by omega) | rfl | decide)) ?_
 apply aC
 repeat apply aA
 refine cF ?_
 repeat apply aA
 refine aR ?_
 repeat refine bW ?_
 refine dT ?_
 refine fh0 [0, 1] ?_
 rfl
end
section
open Go.Gh
variable {E : Env Tryz.prog} {A : E.α}
structure wZ (c : Prop) : Prop where
 h : c := by (first | exact True.intro | omega | (simp only [inI]; omega) | (simp [P.size, bR, bF, bN, bB, cR, good, G.one, P.one, P.cells] <;> first | omega | assumption | simp_all))
theorem aEo (n : Int) (hn : n ≠ 0) (c0 c1 c2 c3 c4 c5 c6 : P) : kV E 105 [.ref 0 0, .ref 1 0] (aG [(0, .cells [.p (.int .i64 0)] 0), (1, .cells [.p c0, .p c1, .p c2, .p c3, .p c4, .p c5, .p c6] 0)]) A (some (.iface 218 (.agg [.int .i64 n]))) (fun y => y = .ok (.p (.tuple [])) (aG [(0, .cells [.p (.int .i64 n)] 0), (1, .cells [.nils, .p (.int .i64 0), .p (.int .i64 0), .p (.int .i64 0), .p (.int .i64 0), .p (.int .i64 0), .nils] 0)]) A) := by
 refine fZ Tryz.func105 (some _) (rfl : Tryz.f105.body = some _) rfl rfl rfl (by decide) (Nat.le_of_ble_eq_true rfl) (fun id h => ?_) (fun j id h => ?_) ?_
 ·exact nD h
 ·exact nE h
 intro C hN hL
 replace hN : C.N = 8 := hN
 simp only [Gh.num, List.map_cons, List.map_nil, Nat.reduceAdd, pJ]
 refine oc0 [(0, 0)] [] [0, 0] none (spec := gU 0 n) (hent := sN) ?_
 apply aC
 refine (?_ : gwp C none _ _ (sg _ _ _ []))
 repeat apply aA
 apply aB
 iterate 2 refine v0 ?_
 refine rb 6 true (h := by (simp [hn])) ?_
 apply aC
 repeat apply aA
 refine cT ?_
 repeat apply aA
 apply aB
 refine n1 120 false (hc := wZ.h {}) ?_
 apply aC
 refine cl [0, 1, 2] ?_
 repeat apply aA
 apply aB
 refine v0 ?_
 refine s1 (hc := wZ.h {}) ?_
 apply aC
 repeat refine bW ?_
 refine dT ?_
 refine fh0 [0, 1] ?_
 rfl
theorem aEp (n : Int) (hn : n ≠ 0) (c0 c1 c2 : P) : kV E 116 [.ref 0 0, .ref 1 0] (aG [(0, .cells [.p (.int .i64 0)] 0), (1, .cells [.p c0, .p c1, .p c2] 0)]) A (some (.iface 218 (.agg [.int .i64 n]))) (fun y => y = .ok (.p (.tuple [])) (aG [(0, .cells [.p (.int .i64 n)] 0), (1, .cells [.p (.int .i64 0), .p (.int .i64 0), .nils] 0)]) A) := by
 refine fZ Tryz.func116 (some _) (rfl : Tryz.f116.body = some _) rfl rfl rfl (by decide) (Nat.le_of_ble_eq_true rfl) (fun id h => ?_) (fun j id h => ?_) ?_
 ·exact nD h
 ·exact nE h
 intro C hN hL
 replace hN : C.N = 8 := hN
 simp only [Gh.num, List.map_cons, List.map_nil, Nat.reduceAdd, pJ]
 refine oc0 [(0, 0)] [] [0, 0] none (spec := gU 0 n) (hent := sN) ?_
 apply aC
 refine (?_ : gwp C none _ _ (sg _ _ _ []))
 repeat apply aA
 apply aB
 iterate 2 refine v0 ?_
 refine rb 6 true (h := by (simp [hn])) ?_
 apply aC
 repeat apply aA
 refine cT ?_
 repeat apply aA
 apply aB
 refine n1 120 false (hc := wZ.h {}) ?_
 apply aC
 refine cl [0, 1, 2] ?_
 repeat apply aA
 apply aB
 refine v0 ?_
 refine s1 (hc := wZ.h {}) ?_
 apply aC
 repeat refine bW ?_
 refine dT ?_
 refine fh0 [0, 1] ?_
 rfl
theorem aEq (n : Int) (hn : n ≠ 0) (c0 c1 c2 c3 c4 : P) : kV E 125 [.ref 0 0, .ref 1 0] (aG [(0, .cells [.p (.int .i64 0)] 0), (1, .cells [.p c0, .p c1, .p c2, .p c3, .p c4] 0)]) A (some (.iface 218 (.agg [.int .i64 n]))) (fun y => y = .ok (.p (.tuple [])) (aG [(0, .cells [.p (.int .i64 n)] 0), (1, .cells [.p (.int .i64 0), .p (.int .i64 0), .nils, .nils, .p (.int .i64 0)] 0)]) A) := by
 refine fZ Tryz.func125 (some _) (rfl : Tryz.f125.body = some _) rfl rfl rfl (by decide) (Nat.le_of_ble_eq_true rfl) (fun id h => ?_) (fun j id h => ?_) ?_
 ·exact nD h
 ·exact nE h
 intro C hN hL
 replace hN : C.N = 8 := hN
 simp only [Gh.num, List.map_cons, List.map_nil, Nat.reduceAdd, pJ]
 refine oc0 [(0, 0)] [] [0, 0] none (spec := gU 0 n) (hent := sN) ?_
 apply aC
 refine (?_ : gwp C none _ _ (sg _ _ _ []))
 repeat apply aA
 apply aB
 iterate 2 refine v0 ?_
 refine rb 6 true (h := by (simp [hn])) ?_
 apply aC
 repeat apply aA
 refine cT ?_
 repeat apply aA
 apply aB
 refine n1 120 false (hc := wZ.h {}) ?_
 apply aC
 refine cl [0, 1, 2] ?_
 repeat apply aA
 apply aB
 refine v0 ?_
 refine s1 (hc := wZ.h {}) ?_
 apply aC
 repeat refine bW ?_
 refine dT ?_
 refine fh0 [0, 1] ?_
 rfl
theorem nB : aJ Tryz.prog 73 := aJ.mk Tryz.func73 (by kernel_rfl) rfl
theorem aJE (c0 c1 c2 c3 : P) : kV E 73 [.ref 0 0, .ref 1 0] (aG [(0, .cells [.p (.int .i64 0)] 0), (1, .cells [.p c0, .p c1, .p c2, .p c3] 0)]) A (none) (fun y => y = .ok (.p (.tuple [])) (aG [(0, .cells [.p (.int .i64 0)] 0), (1, .cells [.p c0, .p c1, .p c2, .p c3] 0)]) A) := by
 refine fZ Tryz.func73 (some _) (rfl : Tryz.f73.body = some _) rfl rfl rfl (by decide) (Nat.le_of_ble_eq_true rfl) (fun id h => ?_) (fun j id h => ?_) ?_
 ·exact nD h
 ·exact nE h
 intro C hN hL
 replace hN : C.N = 7 := hN
 simp only [Gh.num, List.map_cons, List.map_nil, Nat.reduceAdd, pJ]
 refine oc0 [(0, 0)] [] [0, 0] none (spec := qU 0) (hent := sN) ?_
 apply aC
 refine (?_ : gwp C none _ _ (sg _ _ _ []))
 repeat apply aA
 apply aB
 iterate 2 refine v0 ?_
 refine rb 5 false (h := by (first | with_reducible rfl | exact decide_eq_false (by omega) | rfl | decide)) ?_
 apply aC
 repeat apply aA
 refine cF ?_
 repeat apply aA
 refine aR ?_
 repeat refine bW ?_
 refine dT ?_
 refine fh0 [0, 1] ?_
 rfl
theorem aAi (n : Int) (hn : n ≠ 0) (c0 c1 c2 c3 : P) : kV E 73 [.ref 0 0, .ref 1 0] (aG [(0, .cells [.p (.int .i64 0)] 0), (1, .cells [.p c0, .p c1, .p c2, .p c3] 0)]) A (some (.iface 218 (.agg [.int .i64 n]))) (fun y => y = .ok (.p (.tuple [])) (aG [(0, .cells [.p (.int .i64 n)] 0), (1, .cells [.p (.int .i64 0), .p (.int .i64 0), .nils, .p (.int .i64 0)] 0)]) A) := by
 refine fZ Tryz.func73 (some _) (rfl : Tryz.f73.body = some _) rfl rfl rfl (by decide) (Nat.le_of_ble_eq_true rfl) (fun id h => ?_) (fun j id h => ?_) ?_
 ·exact nD h
 ·exact nE h
 intro C hN hL
 replace hN : C.N = 7 := hN
 simp only [Gh.num, List.map_cons, List.map_nil, Nat.reduceAdd, pJ]
 refine oc0 [(0, 0)] [] [0, 0] none (spec := gU 0 n) (hent := sN) ?_
 apply aC
 refine (?_ : gwp C none _ _ (sg _ _ _ []))
 repeat apply aA
 apply aB
 iterate 2 refine v0 ?_
 refine rb 5 true (h := by (simp [hn])) ?_
 apply aC
 repeat apply aA
 refine cT ?_
 repeat apply aA
 apply aB
 refine v0 ?_
 refine s1 (hc := wZ.h {}) ?_
 apply aC
 repeat refine bW ?_
 refine dT ?_
 refine fh0 [0, 1] ?_
 rfl
theorem aEr (n : Int) (hn : n ≠ 0) (c1 c2 c3 c4 c5 : P) (n0 : Nat) (l0 : List P) (n6 : Nat) (l6 : List P) : kV E 105 [.ref 0 0, .ref 1 0] (aG [(0, .cells [.p (.int .i64 0)] 0), (1, .cells [.own 2 n0, .p c1, .p c2, .p c3, .p c4, .p c5, .own 3 n6] 0), (2, .arr 24 2 l0 false), (3, .arr 81 3 l6 false)]) A (some (.iface 218 (.agg [.int .i64 n]))) (fun y => y = .ok (.p (.tuple [])) (aG [(0, .cells [.p (.int .i64 n)] 0), (1, .cells [.nils, .p (.int .i64 0), .p (.int .i64 0), .p (.int .i64 0), .p (.int .i64 0), .p (.int .i64 0), .nils] 0), (2, .arr 24 2 l0 false), (3, .arr 81 3 l6 false)]) A) := by
 refine fZ Tryz.func105 (some _) (rfl : Tryz.f105.body = some _) rfl rfl rfl (by decide) (Nat.le_of_ble_eq_true rfl) (fun id h => ?_) (fun j id h => ?_) ?_
 ·exact nD h
 ·exact nE h
 intro C hN hL
 replace hN : C.N = 8 := hN
 simp only [Gh.num, List.map_cons, List.map_nil, Nat.reduceAdd, pJ]
 refine oc0 [(0, 0)] [] [0, 0] none (spec := gU 0 n) (hent := sN) ?_
 apply aC
 refine (?_ : gwp C none _ _ (sg _ _ _ []))
 repeat apply aA
 apply aB
 iterate 2 refine v0 ?_
 refine rb 6 true (h := by (simp [hn])) ?_
 apply aC
 repeat apply aA
 refine cT ?_
 repeat apply aA
 apply aB
 refine n1 120 false (hc := wZ.h {}) ?_
 apply aC
 repeat apply aA
 apply aB
 refine v0 ?_
 refine s1 (hc := wZ.h {}) ?_
 apply aC
 repeat refine bW ?_
 refine dT ?_
 refine fh0 [0, 1, 2, 3] ?_
 rfl
theorem aEs (n : Int) (hn : n ≠ 0) (c0 c1 : P) (n2 : Nat) (l2 : List P) : kV E 116 [.ref 0 0, .ref 1 0] (aG [(0, .cells [.p (.int .i64 0)] 0), (1, .cells [.p c0, .p c1, .own 2 n2] 0), (2, .arr 84 9 l2 false)]) A (some (.iface 218 (.agg [.int .i64 n]))) (fun y => y = .ok (.p (.tuple [])) (aG [(0, .cells [.p (.int .i64 n)] 0), (1, .cells [.p (.int .i64 0), .p (.int .i64 0), .nils] 0), (2, .arr 84 9 l2 false)]) A) := by
 refine fZ Tryz.func116 (some _) (rfl : Tryz.f116.body = some _) rfl rfl rfl (by decide) (Nat.le_of_ble_eq_true rfl) (fun id h => ?_) (fun j id h => ?_) ?_
 ·exact nD h
 ·exact nE h
 intro C hN hL
 replace hN : C.N = 8 := hN
 simp only [Gh.num, List.map_cons, List.map_nil, Nat.reduceAdd, pJ]
 refine oc0 [(0, 0)] [] [0, 0] none (spec := gU 0 n) (hent := sN) ?_
 apply aC
 refine (?_ : gwp C none _ _ (sg _ _ _ []))
 repeat apply aA
 apply aB
 iterate 2 refine v0 ?_
 refine rb 6 true (h := by (simp [hn])) ?_
 apply aC
 repeat apply aA
 refine cT ?_
 repeat apply aA
 apply aB
 refine n1 120 false (hc := wZ.h {}) ?_
 apply aC
 repeat apply aA
 apply aB
 refine v0 ?_
 refine s1 (hc := wZ.h {}) ?_
 apply aC
 repeat refine bW ?_
 refine dT ?_
 refine fh0 [0, 1, 2] ?_
 rfl
theorem aEt (n : Int) (hn : n ≠ 0) (c0 c1 c4 : P) (n2 : Nat) (l2 : List P) (n3 : Nat) (l3 : List P) : kV E 125 [.ref 0 0, .ref 1 0] (aG [(0, .cells [.p (.int .i64 0)] 0), (1, .cells [.p c0, .p c1, .own 2 n2, .own 3 n3, .p c4] 0), (2, .arr 126 2 l2 false), (3, .arr 86 3 l3 false)]) A (some (.iface 218 (.agg [.int .i64 n]))) (fun y => y = .ok (.p (.tuple [])) (aG [(0, .cells [.p (.int .i64 n)] 0), (1, .cells [.p (.int .i64 0), .p (.int .i64 0), .nils, .nils, .p (.int .i64 0)] 0), (2, .arr 126 2 l2 false), (3, .arr 86 3 l3 false)]) A) := by
 refine fZ Tryz.func125 (some _) (rfl : Tryz.f125.body = some _) rfl rfl rfl (by decide) (Nat.le_of_ble_eq_true rfl) (fun id h => ?_) (fun j id h => ?_) ?_
 ·exact nD h
 ·exact nE h
 intro C hN hL
 replace hN : C.N = 8 := hN
 simp only [Gh.num, List.map_cons, List.map_nil, Nat.reduceAdd, pJ]
 refine oc0 [(0, 0)] [] [0, 0] none (spec := gU 0 n) (hent := sN) ?_
 apply aC
 refine (?_ : gwp C none _ _ (sg _ _ _ []))
 repeat apply aA
 apply aB
 iterate 2 refine v0 ?_
 refine rb 6 true (h := by (simp [hn])) ?_
 apply aC
 repeat apply aA
 refine cT ?_
 repeat apply aA
 apply aB
 refine n1 120 false (hc := wZ.h {}) ?_
 apply aC
 repeat apply aA
 apply aB
 refine v0 ?_
 refine s1 (hc := wZ.h {}) ?_
 apply aC
 repeat refine bW ?_
 refine dT ?_
 refine fh0 [0, 1, 2, 3] ?_
 rfl
theorem jS (n : Int) (hn : n ≠ 0) (c0 c1 c3 : P) (n2 : Nat) (l2 : List P) : kV E 73 [.ref 0 0, .ref 1 0] (aG [(0, .cells [.p (.int .i64 0)] 0), (1, .cells [.p c0, .p c1, .own 2 n2, .p c3] 0), (2, .arr 76 2 l2 false)]) A (some (.iface 218 (.agg [.int .i64 n]))) (fun y => y = .ok (.p (.tuple [])) (aG [(0, .cells [.p (.int .i64 n)] 0), (1, .cells [.p (.int .i64 0), .p (.int .i64 0), .nils, .p (.int .i64 0)] 0), (2, .arr 76 2 l2 false)]) A) := by
 refine fZ Tryz.func73 (some _) (rfl : Tryz.f73.body = some _) rfl rfl rfl (by decide) (Nat.le_of_ble_eq_true rfl) (fun id h => ?_) (fun j id h => ?_) ?_
 ·exact nD h
 ·exact nE h
 intro C hN hL
 replace hN : C.N = 7 := hN
 simp only [Gh.num, List.map_cons, List.map_nil, Nat.reduceAdd, pJ]
 refine oc0 [(0, 0)] [] [0, 0] none (spec := gU 0 n) (hent := sN) ?_
 apply aC
 refine (?_ : gwp C none _ _ (sg _ _ _ []))
 repeat apply aA
 apply aB
 iterate 2 refine v0 ?_
 refine rb 5 true (h := by (simp [hn])) ?_
 apply aC
 repeat apply aA
 refine cT ?_
 repeat apply aA
 apply aB
 refine v0 ?_
 refine s1 (hc := wZ.h {}) ?_
 apply aC
 repeat refine bW ?_
 refine dT ?_
 refine fh0 [0, 1, 2] ?_
 rfl
end
section
open Go.Gh
variable {E : Env Tryz.prog} {A : E.α}
structure aBB (c : Prop) : Prop where
 h : c := by (first | exact True.intro | omega | (simp only [inI]; omega) | ((repeat' apply And.intro) <;> (first | trivial | omega | (simp only [bU, List.length_cons]; omega) | exact dQ _ | exact dQ (_ :: _) | (simp only [inI]; omega)); done) | (have := dQ; simp [P.size, bU, inI] <;> first | omega | exact this _ | exact ⟨this _, by omega⟩ | assumption | grind))
def Sch.z : Sch := ⟨(0, 0), [], 0⟩
def qL (m : Nat) (acc : List Ngt) (l : List UInt8) : Option (List Ngt × List UInt8) := match jR m l with
 | none => none
 | some z => some (acc ++ z.1, z.2)
def uT (m : Nat) (sp : List Spt) (l : List UInt8) : Option (List Spt × List UInt8) := match iH m l with
 | none => none
 | some z => some (sp ++ z.1, z.2)
def aJF (m : Nat) (acc : List Ngt) (d : Int) : Option (List Spt × List UInt8) → Option (List Ngt × List UInt8)
 | none => none
 | some z => qL m (acc ++ [⟨d, z.1⟩]) z.2
def aJG (v : Int × Int) (st : Int) : Option (List Ngt × List UInt8) → Option (Sch × List UInt8)
 | none => none
 | some y => some (⟨v, y.1, st⟩, y.2)
theorem aLe (acc : List Ngt) (l : List UInt8) : qL 0 acc l = some (acc, l) := by simp [qL, jR]
theorem aLf (sp : List Spt) (l : List UInt8) : uT 0 sp l = some (sp, l) := by simp [uT, iH]
theorem aJH {m : Nat} {acc : List Ngt} {l : List UInt8} (h : nH l = none) : qL (m + 1) acc l = none := by simp [qL, jR, yK, h]
theorem aJI {m : Nat} {acc : List Ngt} {l : List UInt8} {d : Int} (h : nH l = some (d, [])) : qL (m + 1) acc l = none := by simp [qL, jR, yK, h]
theorem aLg {m : Nat} {acc : List Ngt} {l r : List UInt8} {d : Int} {c : UInt8} (h : nH l = some (d, c :: r)) : qL (m + 1) acc l = aJF m acc d (uT c.toNat [] r) := by
 simp only [qL, jR, yK, h, uT]
 cases iH c.toNat r with
 | none => rfl
 | some z =>
  simp only [aJF, qL, List.nil_append]
  cases jR m z.2 with
  | none => rfl
  | some y => simp
theorem aGr {m : Nat} {sp : List Spt} {l : List UInt8} (h : oQ l = none) : uT (m + 1) sp l = none := by simp [uT, iH, h]
theorem aLh {m : Nat} {sp : List Spt} {l r : List UInt8} {x : Spt} (h : oQ l = some (x, r)) : uT (m + 1) sp l = uT m (sp ++ [x]) r := by
 simp only [uT, iH, h]
 cases iH m r with
 | none => rfl
 | some z => simp
theorem aHs {l : List UInt8} (h : fU l = none) : oQ l = none := by unfold oQ; rw [h]
theorem aHt {l r : List UInt8} {e : Int × Int} (h : fU l = some (e, r)) (h2 : fU r = none) : oQ l = none := by unfold oQ; rw [h]; simp only; rw [h2]
theorem aJJ {l r q : List UInt8} {e n : Int × Int} (h : fU l = some (e, r)) (h2 : fU r = some (n, q)) : oQ l = some (⟨e, n⟩, q) := by unfold oQ; rw [h]; simp only; rw [h2]
def rdS (b : List UInt8) : P := match qJ b with
 | some p => .tuple [kI p, .int .i64 0]
 | none => .tuple [kI Sch.z, .int .i64 8]
theorem xA {b : List UInt8} (h : eQ (b.take (b.length - 2)) = none) : rdS b = .tuple [kI Sch.z, .int .i64 8] := by unfold rdS qJ; rw [h]
theorem aGs {b : List UInt8} {z : Sch × List UInt8} (h : eQ (b.take (b.length - 2)) = some z) (h2 : ¬ (z.2 = [] ∧ z.1.valid = true ∧ oO z.1 = b)) : rdS b = .tuple [kI Sch.z, .int .i64 8] := by
 unfold rdS qJ
 rw [h]
 simp only
 rw [if_neg h2]
theorem aOr {b : List UInt8} {s : Sch} (h : eQ (b.take (b.length - 2)) = some (s, [])) (h1 : s.valid = true) (h2 : oO s = b) : rdS b = .tuple [kI s, .int .i64 0] := by
 unfold rdS qJ
 rw [h]
 simp only
 rw [if_pos ⟨trivial, h1, h2⟩]
theorem aGt (n : Nat) : ((List.range n).map fun i => ([.p (.int .u8 0)] : List G).getD (i % 1) .undef) = (List.replicate n (P.int .u8 0)).map .p := by
 apply List.ext_getElem
 ·simp
 ·intro i h1 h2
  simp [Nat.mod_one]
theorem aBl (n : Nat) (ps : List P) (h : ps.length = n) : splice ((List.replicate n (P.int .u8 0)).map .p) 0 (ps.map .p) = ps.map .p := by
 unfold splice
 rw [List.take_zero, List.nil_append, Nat.zero_add, List.length_map, h, List.drop_of_length_le (by simp), List.append_nil]
theorem aEu (b : List UInt8) (n : Nat) : (u8s b).take n = u8s (b.take n) := by unfold u8s; rw [List.map_take]
theorem uA (b : List UInt8) : ∀ p ∈ u8s b, p.one = true := by intro x hx; obtain ⟨c, _, rfl⟩ := List.mem_map.1 hx; rfl
theorem aJK : aJ Tryz.prog 30 := aJ.mk Tryz.func30 (by kernel_rfl) rfl
theorem aHu (b : List UInt8) (h : b.length < 2) : Gh.bE E 30 [.p (.list (u8s b))] (aG []) A (fun y => y = .ok (.p (.tuple [kI Sch.z, .int .i64 11])) (aG []) A) := by
 refine aAU Tryz.func30 (rfl : Tryz.f30.body = some _) (Nat.le_of_ble_eq_true rfl) (fun id h => ?_) (fun j id h => ?_) ?_
 ·exact nD h
 ·exact nE h
 intro C hN hL
 replace hN : C.N = 98 := hN
 simp only [Gh.num, List.map_cons, List.map_nil, Nat.reduceAdd]
 have hul : ∀ l : List UInt8, (u8s l).length = l.length := bU
 repeat apply aA
 apply aB
 refine n1 120 false (hc := aBB.h {}) ?_
 refine n1 130 false (hc := aBB.h {}) ?_
 apply aC
 refine cl [0, 2, 3] ?_
 repeat apply aA
 apply aB
 refine v0 ?_
 refine df0 ?_
 apply aC
 refine cl [0, 2, 3] ?_
 repeat apply aA
 refine ad 120 2 3000 76 2 false ?_
 apply aB
 iterate 3 refine v0 ?_
 refine rb 15 true (h := by (first | with_reducible rfl | exact decide_eq_true (by omega) | rfl | decide)) ?_
 refine pc0 (spec := bG _) (hent := bX) ?_
 apply aC
 refine cl [0, 2, 3] ?_
 repeat apply aA
 apply aB
 iterate 3 refine v0 ?_
 refine rb 19 false (h := by (first | with_reducible rfl | exact decide_eq_false (by omega) | rfl | decide)) ?_
 refine pp0 (spec := dE _) (hent := bX) ?_
 repeat (first | refine aO ?_ | refine aN ?_ | refine aW ?_)
 refine bP ?_
 try refine om (h3 := by simp [bM, dD, G.idl, G.idls, cL, aE, aI]) ?_
 refine eY [130, 120, 3000] [(0, 130), (1, 120), (2, 3000)] (spec := jS 11 (by omega) (.int .i64 0) (.int .i64 0) (.int .i64 0) 0 ([])) (hent := nB) ?_
 refine cV ?_
 refine fp2 ?_
 rfl
theorem aHv (b : List UInt8) (h : b.length ≤ 4096) (h2 : 2 ≤ b.length) (hs : yJ (b.take (b.length - 2)) ≠ b) : Gh.bE E 30 [.p (.list (u8s b))] (aG []) A (fun y => y = .ok (.p (.tuple [kI Sch.z, .int .i64 11])) (aG []) A) := by
 refine aAU Tryz.func30 (rfl : Tryz.f30.body = some _) (Nat.le_of_ble_eq_true rfl) (fun id h => ?_) (fun j id h => ?_) ?_
 ·exact nD h
 ·exact nE h
 intro C hN hL
 replace hN : C.N = 98 := hN
 simp only [Gh.num, List.map_cons, List.map_nil, Nat.reduceAdd]
 have hul : ∀ l : List UInt8, (u8s l).length = l.length := bU
 have hol : (b.take (b.length - 2)).length = b.length - 2 := by rw [List.length_take]; omega
 have hn2 : ((b.length : Int) - 2).toNat = b.length - 2 := by omega
 repeat apply aA
 apply aB
 refine n1 120 false (hc := aBB.h {}) ?_
 refine n1 130 false (hc := aBB.h {}) ?_
 apply aC
 refine cl [0, 2, 3] ?_
 repeat apply aA
 apply aB
 refine v0 ?_
 refine df0 ?_
 apply aC
 refine cl [0, 2, 3] ?_
 repeat apply aA
 refine ad 120 2 3000 76 2 false ?_
 apply aB
 iterate 3 refine v0 ?_
 refine rb 15 true (h := by (first | with_reducible rfl | exact decide_eq_true (by omega) | rfl | decide)) ?_
 refine pc0 (spec := bG _) (hent := bX) ?_
 apply aC
 refine cl [0, 2, 3] ?_
 repeat apply aA
 apply aB
 iterate 3 refine v0 ?_
 refine rb 19 true (h := by (first | with_reducible rfl | exact decide_eq_true (by omega) | rfl | decide)) ?_
 refine pc0 (spec := bG _) (hent := bX) ?_
 apply aC
 refine cl [0, 2, 3] ?_
 repeat apply aA
 apply aB
 iterate 2 refine v0 ?_
 refine v1 (hc := aBB.h {}) ?_
 refine n1 340 false (hc := aBB.h {}) ?_
 rw [aGt]
 refine n1 140 false (hc := aBB.h {}) ?_
 refine s1 (hc := aBB.h {}) ?_
 apply aC
 refine cl [0, 2, 3, 4] ?_
 repeat apply aA
 apply aB
 iterate 2 refine v0 ?_
 refine cp2 (ps := u8s (b.take (b.length - 2))) (hps := aEu b _) (hfit := by (simp [bU] <;> omega)) (h0 := uA b) ?_
 rw [aBl (b.length - 2) (u8s (b.take (b.length - 2))) (by rw [bU, hol])]
 refine ofk 340 (b.length - 2) (hn2 := by (rw [List.length_map, bU, hol]; exact Nat.le_refl _)) (h1 := by (rw [List.take_of_length_le (by rw [List.length_map, bU, hol]; exact Nat.le_refl _)]; simp [bF]; exact uA _)) ?_
 apply aC
 refine cl [0, 2, 3, 4] ?_
 repeat apply aA
 refine aF4 (i1 := 140) (o1 := 0) (id := 340) (off := 0) (len := b.length - 2) (ps := u8s (b.take (b.length - 2))) (by (simp only [aE, aI, Nat.reduceEqDiff, reduceIte] <;> rfl)) (by rfl) (by (simp only [aE, aI, Nat.reduceEqDiff, reduceIte] <;> rfl)) (by omega) (by (rw [List.drop_zero, List.take_of_length_le (by rw [List.length_map, bU, hol]; exact Nat.le_refl _)])) (by rw [bU, hol]) (uA _) (by simp only [List.set_cons_zero] <;> rfl) ?_
 apply aB
 refine v0 ?_
 refine oc0 [(5000, 3500)] [] [0] none (spec := aGp (b.take (b.length - 2)) (by omega)) (hent := aLI) ?_
 refine v0 ?_
 refine n1 150 false (hc := aBB.h {}) ?_
 refine s1 (hc := aBB.h {}) ?_
 apply aC
 refine cl [0, 2, 3, 4, 5] ?_
 repeat apply aA
 apply aB
 refine oc0 [(0, 150), (1, 3500)] [] [0] none (spec := aAf (b.take (b.length - 2)) (by omega)) (hent := aGm) ?_
 apply aC
 refine cl [0, 2, 3, 4, 5] ?_
 repeat apply aA
 refine pL 3500 (by (simp only [aE, aI, Nat.reduceEqDiff, reduceIte] <;> rfl)) ?_
 refine nC 150 0 .p (by (simp only [aE, aI, Nat.reduceEqDiff, reduceIte] <;> rfl)) (by rfl) (by simp only [cvS, toP, aE, aI, Nat.reduceEqDiff, reduceIte] <;> rfl) (by rw [bU]) rfl (by simp only [List.set_cons_zero] <;> rfl) ?_
 apply aB
 iterate 3 refine v0 ?_
 refine pc0 (spec := aAh (yJ (b.take (b.length - 2))) b (by rw [aAg]; omega)) (hent := aGo) ?_
 refine rb 35 false (h := by (exact decide_eq_false hs)) ?_
 refine pp0 (spec := dE _) (hent := bX) ?_
 repeat (first | refine aO ?_ | refine aN ?_ | refine aW ?_)
 refine bP ?_
 try refine om (h3 := by simp [bM, dD, G.idl, G.idls, cL, aE, aI]) ?_
 refine eY [130, 120, 3000] [(0, 130), (1, 120), (2, 3000)] (spec := jS 11 (by omega) (.int .i64 0) (.int .i64 0) (.int .i64 0) 0 ([])) (hent := nB) ?_
 refine cV ?_
 refine fp2 ?_
 rfl
theorem aFz (o : List UInt8) : (o = [] ∧ eQ o = none) ∨ (∃ c l, o = c :: l ∧ c ≠ 83 ∧ eQ o = none) ∨ (∃ l, o = 83 :: l ∧ fU l = none ∧ eQ o = none) ∨ (∃ l v, o = 83 :: l ∧ fU l = some (v, []) ∧ eQ o = none) ∨
  (∃ l v st, o = 83 :: l ∧ fU l = some (v, [st]) ∧ eQ o = none) ∨ (∃ l v st nb q, o = 83 :: l ∧ fU l = some (v, st :: nb :: q) ∧ eQ o = aJG v (st.toNat : Nat) (qL nb.toNat [] q)) := by
 match o with
 | [] => exact .inl ⟨rfl, rfl⟩
 | c :: l =>
  by_cases hc : c = 83
  ·subst hc
   cases e : fU l with
   | none => exact .inr (.inr (.inl ⟨l, rfl, e, by simp [eQ, e]⟩))
   | some z =>
    obtain ⟨v, r⟩ := z
    match r with
    | [] => exact .inr (.inr (.inr (.inl ⟨l, v, rfl, e, by simp [eQ, e]⟩)))
    | [st] => exact .inr (.inr (.inr (.inr (.inl ⟨l, v, st, rfl, e, by simp [eQ, e]⟩))))
    | st :: nb :: q =>
     refine .inr (.inr (.inr (.inr (.inr ⟨l, v, st, nb, q, rfl, e, ?_⟩))))
     simp only [eQ, if_true, e, qL, List.nil_append]
     cases jR nb.toNat q <;> rfl
  ·exact .inr (.inl ⟨c, l, rfl, hc, by simp [eQ, hc]⟩)
theorem aHw (l : List UInt8) : nH l = none ∨ (∃ d, nH l = some (d, [])) ∨ ∃ d c r, nH l = some (d, c :: r) := by
 cases e : nH l with
 | none => exact .inl rfl
 | some z =>
  obtain ⟨d, r⟩ := z
  cases r with
  | nil => exact .inr (.inl ⟨d, rfl⟩)
  | cons c r => exact .inr (.inr ⟨d, c, r, rfl⟩)
theorem aHx (l : List UInt8) : fU l = none ∨ (∃ e r, fU l = some (e, r) ∧ fU r = none) ∨ ∃ e r n q, fU l = some (e, r) ∧ fU r = some (n, q) := by
 cases e : fU l with
 | none => exact .inl rfl
 | some z =>
  obtain ⟨d, r⟩ := z
  cases e2 : fU r with
  | none => exact .inr (.inl ⟨d, r, rfl, e2⟩)
  | some y => exact .inr (.inr ⟨d, r, y.1, y.2, rfl, e2⟩)
end
section
open Go.Gh
variable {E : Env Tryz.prog} {A : E.α}
structure jC (c : Prop) : Prop where
 h : c := by (first | exact True.intro | omega | (simp only [inI]; omega) | ((repeat' apply And.intro) <;> (first | trivial | omega | (simp only [bU, List.length_cons]; omega) | exact dQ _ | exact dQ (_ :: _) | (simp only [inI]; omega)); done) | (have := dQ; simp [P.size, bU, inI] <;> first | omega | exact this _ | exact ⟨this _, by omega⟩ | assumption | grind))
theorem aCh (b : List UInt8) (h : b.length ≤ 4096) (h2 : 2 ≤ b.length) (hs : yJ (b.take (b.length - 2)) = b) : Gh.bE E 30 [.p (.list (u8s b))] (aG []) A (fun y => y = .ok (.p (rdS b)) (aG []) A) := by
 refine aAU Tryz.func30 (rfl : Tryz.f30.body = some _) (Nat.le_of_ble_eq_true rfl) (fun id h => ?_) (fun j id h => ?_) ?_
 ·exact nD h
 ·exact nE h
 intro C hN hL
 replace hN : C.N = 98 := hN
 simp only [Gh.num, List.map_cons, List.map_nil, Nat.reduceAdd]
 have hul : ∀ l : List UInt8, (u8s l).length = l.length := bU
 have hol : (b.take (b.length - 2)).length = b.length - 2 := by rw [List.length_take]; omega
 have hn2 : ((b.length : Int) - 2).toNat = b.length - 2 := by omega
 repeat apply aA
 apply aB
 refine n1 120 false (hc := jC.h {}) ?_
 refine n1 130 false (hc := jC.h {}) ?_
 apply aC
 refine cl [0, 2, 3] ?_
 repeat apply aA
 apply aB
 refine v0 ?_
 refine df0 ?_
 apply aC
 refine cl [0, 2, 3] ?_
 repeat apply aA
 refine ad 120 2 3000 76 2 false ?_
 apply aB
 iterate 3 refine v0 ?_
 refine rb 15 true (h := by (first | with_reducible rfl | exact decide_eq_true (by omega) | rfl | decide)) ?_
 refine pc0 (spec := bG _) (hent := bX) ?_
 apply aC
 refine cl [0, 2, 3] ?_
 repeat apply aA
 apply aB
 iterate 3 refine v0 ?_
 refine rb 19 true (h := by (first | with_reducible rfl | exact decide_eq_true (by omega) | rfl | decide)) ?_
 refine pc0 (spec := bG _) (hent := bX) ?_
 apply aC
 refine cl [0, 2, 3] ?_
 repeat apply aA
 apply aB
 iterate 2 refine v0 ?_
 refine v1 (hc := jC.h {}) ?_
 refine n1 340 false (hc := jC.h {}) ?_
 rw [aGt]
 refine n1 140 false (hc := jC.h {}) ?_
 refine s1 (hc := jC.h {}) ?_
 apply aC
 refine cl [0, 2, 3, 4] ?_
 repeat apply aA
 apply aB
 iterate 2 refine v0 ?_
 refine cp2 (ps := u8s (b.take (b.length - 2))) (hps := aEu b _) (hfit := by (simp [bU] <;> omega)) (h0 := uA b) ?_
 rw [aBl (b.length - 2) (u8s (b.take (b.length - 2))) (by rw [bU, hol])]
 refine ofk 340 (b.length - 2) (hn2 := by (rw [List.length_map, bU, hol]; exact Nat.le_refl _)) (h1 := by (rw [List.take_of_length_le (by rw [List.length_map, bU, hol]; exact Nat.le_refl _)]; simp [bF]; exact uA _)) ?_
 apply aC
 refine cl [0, 2, 3, 4] ?_
 repeat apply aA
 refine aF4 (i1 := 140) (o1 := 0) (id := 340) (off := 0) (len := b.length - 2) (ps := u8s (b.take (b.length - 2))) (by (simp only [aE, aI, Nat.reduceEqDiff, reduceIte] <;> rfl)) (by rfl) (by (simp only [aE, aI, Nat.reduceEqDiff, reduceIte] <;> rfl)) (by omega) (by (rw [List.drop_zero, List.take_of_length_le (by rw [List.length_map, bU, hol]; exact Nat.le_refl _)])) (by rw [bU, hol]) (uA _) (by simp only [List.set_cons_zero] <;> rfl) ?_
 apply aB
 refine v0 ?_
 refine oc0 [(5000, 3500)] [] [0] none (spec := aGp (b.take (b.length - 2)) (by omega)) (hent := aLI) ?_
 refine v0 ?_
 refine n1 150 false (hc := jC.h {}) ?_
 refine s1 (hc := jC.h {}) ?_
 apply aC
 refine cl [0, 2, 3, 4, 5] ?_
 repeat apply aA
 apply aB
 refine oc0 [(0, 150), (1, 3500)] [] [0] none (spec := aAf (b.take (b.length - 2)) (by omega)) (hent := aGm) ?_
 apply aC
 refine cl [0, 2, 3, 4, 5] ?_
 repeat apply aA
 refine pL 3500 (by (simp only [aE, aI, Nat.reduceEqDiff, reduceIte] <;> rfl)) ?_
 refine nC 150 0 .p (by (simp only [aE, aI, Nat.reduceEqDiff, reduceIte] <;> rfl)) (by rfl) (by simp only [cvS, toP, aE, aI, Nat.reduceEqDiff, reduceIte] <;> rfl) (by rw [bU]) rfl (by simp only [List.set_cons_zero] <;> rfl) ?_
 apply aB
 iterate 3 refine v0 ?_
 refine pc0 (spec := aAh (yJ (b.take (b.length - 2))) b (by rw [aAg]; omega)) (hent := aGo) ?_
 refine rb 35 true (h := by (exact decide_eq_true hs)) ?_
 refine pc0 (spec := bG _) (hent := bX) ?_
 apply aC
 refine cl [0, 2, 3, 4] ?_
 repeat apply aA
 apply aB
 refine v0 ?_
 refine n1 160 false (hc := jC.h {}) ?_
 refine s1 (hc := jC.h {}) ?_
 apply aC
 refine cl [0, 2, 3, 4, 6] ?_
 repeat apply aA
 refine fz 160 1 [.k] ?_
 apply aB
 refine v0 ?_
 refine ocv 38 (.f [.n [.k]]) (k := ?_)
 refine n1 170 false (hc := jC.h {}) ?_
 refine s1 (hc := jC.h {}) ?_
 apply aC
 refine cl [0, 2, 3, 4, 6, 7] ?_
 repeat apply aA
 refine fz 170 1 [.k] ?_
 apply aB
 refine v0 ?_
 refine ocv 39 (.f [.n [.k]]) (k := ?_)
 refine v0 ?_
 apply aC
 refine cl [0, 2, 3, 4, 6, 7, 8] ?_
 repeat apply aA
 rcases aFz (b.take (b.length - 2)) with ⟨ho, hnone⟩ | ⟨c, l, ho, hc, hnone⟩ | ⟨l, ho, hsp, hnone⟩ | ⟨l, v, ho, hsp, hnone⟩ | ⟨l, v, st, ho, hsp, hnone⟩ | ⟨l, v, st, nb, q, ho, hsp, hP0⟩
 ·rw [ho]
  repeat apply aA
  apply aB
  refine v0 ?_
  refine op0 [(0, 140)] [] [0] none (spec := aBj) (hent := nA) ?_
  repeat (first | refine aO ?_ | refine aN ?_ | refine aW ?_)
  refine bP ?_
  try refine om (h3 := by simp [bM, dD, G.idl, G.idls, cL, aE, aI]) ?_
  refine eY [130, 120, 3000] [(0, 130), (1, 120), (2, 3000)] (spec := jS 8 (by omega) (.int .i64 0) (.int .i64 0) (.int .i64 0) 0 ([])) (hent := nB) ?_
  refine cV ?_
  refine fp2 ?_
  rw [xA hnone]
  rfl
 ·rw [ho]
  repeat apply aA
  apply aB
  refine v0 ?_
  refine oc0 [(0, 140)] [] [0] none (spec := oR c l) (hent := nA) ?_
  refine v0 ?_
  refine rb 42 false (h := by (exact decide_eq_false (fun e => hc (UInt8.toNat_inj.1 (by have h3 : (c.toNat : Int) = 83 := e; show c.toNat = 83; omega))))) ?_
  refine pp0 (spec := dE _) (hent := bX) ?_
  repeat (first | refine aO ?_ | refine aN ?_ | refine aW ?_)
  refine bP ?_
  try refine om (h3 := by simp [bM, dD, G.idl, G.idls, cL, aE, aI]) ?_
  refine eY [130, 120, 3000] [(0, 130), (1, 120), (2, 3000)] (spec := jS 8 (by omega) (.int .i64 0) (.int .i64 0) (.int .i64 0) 0 ([])) (hent := nB) ?_
  refine cV ?_
  refine fp2 ?_
  rw [xA hnone]
  rfl
 ·rw [ho]
  repeat apply aA
  apply aB
  refine v0 ?_
  refine oc0 [(0, 140)] [] [0] none (spec := oR 83 l) (hent := nA) ?_
  refine v0 ?_
  refine rb 42 true (h := by (first | rfl | decide)) ?_
  refine pc0 (spec := bG _) (hent := bX) ?_
  apply aC
  refine cl [0, 2, 3, 4, 6, 7, 8] ?_
  repeat apply aA
  refine rd ?_
  refine da0 0 ?_
  refine psS 1 ?_
  refine psv 2 ?_
  refine psd 3 ?_
  refine psd 4 ?_
  refine psd 5 ?_
  refine psd 6 ?_
  refine psd 7 ?_
  refine pse 1 [0, 1, 0, 7, 3, 31, 63, 127] [2, 3, 44] ?_
  refine dpe [(0, 140)] [] [0] none (spec := aFy l hsp) (hent := wY) ?_
  repeat (first | refine aO ?_ | refine aN ?_ | refine aW ?_)
  refine bP ?_
  try refine om (h3 := by simp [bM, dD, G.idl, G.idls, cL, aE, aI]) ?_
  refine eY [130, 120, 3000] [(0, 130), (1, 120), (2, 3000)] (spec := jS 8 (by omega) (.int .i64 0) (.int .i64 0) (.int .i64 0) 0 ([])) (hent := nB) ?_
  refine cV ?_
  refine fp2 ?_
  rw [xA hnone]
  rfl
 ·rw [ho]
  repeat apply aA
  apply aB
  refine v0 ?_
  refine oc0 [(0, 140)] [] [0] none (spec := oR 83 l) (hent := nA) ?_
  refine v0 ?_
  refine rb 42 true (h := by (first | rfl | decide)) ?_
  refine pc0 (spec := bG _) (hent := bX) ?_
  apply aC
  refine cl [0, 2, 3, 4, 6, 7, 8] ?_
  repeat apply aA
  refine rd ?_
  refine da0 0 ?_
  refine eO 1 [(0, 140)] [] [0] none (spec := yL l v [] hsp) (hent := wY) ?_
  refine d0 2 ?_
  refine psS 3 ?_
  refine psa 4 ?_
  refine psd 5 ?_
  refine psd 6 ?_
  refine psd 7 ?_
  refine pse 3 [0, 1, 0, 7, 3, 31, 63, 127] [2, 3, 46] ?_
  refine dpe [(0, 140)] [] [0] none (spec := aBj) (hent := nA) ?_
  repeat (first | refine aO ?_ | refine aN ?_ | refine aW ?_)
  refine bP ?_
  try refine om (h3 := by simp [bM, dD, G.idl, G.idls, cL, aE, aI]) ?_
  refine eY [130, 120, 3000] [(0, 130), (1, 120), (2, 3000)] (spec := jS 8 (by omega) (.int .i64 0) (.int .i64 0) (.int .i64 0) 0 ([])) (hent := nB) ?_
  refine cV ?_
  refine fp2 ?_
  rw [xA hnone]
  rfl
 ·rw [ho]
  repeat apply aA
  apply aB
  refine v0 ?_
  refine oc0 [(0, 140)] [] [0] none (spec := oR 83 l) (hent := nA) ?_
  refine v0 ?_
  refine rb 42 true (h := by (first | rfl | decide)) ?_
  refine pc0 (spec := bG _) (hent := bX) ?_
  apply aC
  refine cl [0, 2, 3, 4, 6, 7, 8] ?_
  repeat apply aA
  refine rd ?_
  refine da0 0 ?_
  refine eO 1 [(0, 140)] [] [0] none (spec := yL l v [st] hsp) (hent := wY) ?_
  refine d0 2 ?_
  refine eO 3 [(0, 140)] [] [0] none (spec := oR st []) (hent := nA) ?_
  refine da0 4 ?_
  refine ds1 5 (hc := jC.h {}) ?_
  refine da0 6 ?_
  refine ds1 7 (hc := jC.h {}) ?_
  refine dz 8 [0, 1, 0, 7, 3, 31, 63, 127] ?_
  refine de 8 ?_
  refine cl [0, 2, 3, 4, 6, 7, 8] ?_
  repeat apply aA
  apply aB
  refine v0 ?_
  refine op0 [(0, 140)] [] [0] none (spec := aBj) (hent := nA) ?_
  repeat (first | refine aO ?_ | refine aN ?_ | refine aW ?_)
  refine bP ?_
  try refine om (h3 := by simp [bM, dD, G.idl, G.idls, cL, aE, aI]) ?_
  refine eY [130, 120, 3000] [(0, 130), (1, 120), (2, 3000)] (spec := jS 8 (by omega) (.int .i64 v.1) (.int .i64 v.2) (.int .i64 (st.toNat : Nat)) 0 ([])) (hent := nB) ?_
  refine cV ?_
  refine fp2 ?_
  rw [xA hnone]
  rfl
 ·rw [ho]
  have hnb := UInt8.toNat_lt nb
  have hst8 := UInt8.toNat_lt st
  repeat apply aA
  apply aB
  refine v0 ?_
  refine oc0 [(0, 140)] [] [0] none (spec := oR 83 l) (hent := nA) ?_
  refine v0 ?_
  refine rb 42 true (h := by (first | rfl | decide)) ?_
  refine pc0 (spec := bG _) (hent := bX) ?_
  apply aC
  refine cl [0, 2, 3, 4, 6, 7, 8] ?_
  repeat apply aA
  refine rd ?_
  refine da0 0 ?_
  refine eO 1 [(0, 140)] [] [0] none (spec := yL l v (st :: nb :: q) hsp) (hent := wY) ?_
  refine d0 2 ?_
  refine eO 3 [(0, 140)] [] [0] none (spec := oR st (nb :: q)) (hent := nA) ?_
  refine da0 4 ?_
  refine ds1 5 (hc := jC.h {}) ?_
  refine da0 6 ?_
  refine ds1 7 (hc := jC.h {}) ?_
  refine dz 8 [0, 1, 0, 7, 3, 31, 63, 127] ?_
  refine de 8 ?_
  refine cl [0, 2, 3, 4, 6, 7, 8] ?_
  repeat apply aA
  apply aB
  refine v0 ?_
  refine oc0 [(0, 140)] [] [0] none (spec := oR nb q) (hent := nA) ?_
  refine v0 ?_
  apply aC
  refine cl [0, 2, 3, 4, 6, 7, 8, 51, 52] ?_
  repeat apply aA
  refine aP ?_
  repeat apply aA
  refine cI (fun mz σ => ∃ (k : Nat) (acc : List Ngt) (l : List UInt8), (k ≤ nb.toNat) ∧ (acc.length ≤ k) ∧ (∀ x ∈ acc, x.sp.length ≤ 255) ∧ (eQ (b.take (b.length - 2)) = aJG v (st.toNat : Nat) (qL (nb.toNat - k) acc l)) ∧ mz = nb.toNat - k ∧ σ = (sg [(0, .p (.list (u8s b))), (2, .ref 120 0), (3, .ref 130 0), (4, .ref 140 0), (6, .ref 160 0), (7, .ref 170 0), (8, .fn (.func 80) [] [.ptr [.fn (.func 79) [] [.ptr [.fn (.func 78) [] [.ref 140 0]]]]]), (51, .p (.int .i64 (nb.toNat : Nat))), (52, .p (.int .i64 (k : Nat)))] [(120, .cells [.p (.int .i64 v.1), .p (.int .i64 v.2), .own 3000 acc.length, .p (.int .i64 (st.toNat : Nat))] 0), (130, .cells [.p (.int .i64 0)] 0), (140, .cells [.p (.list (u8s l))] 0), (160, .cells [.fn (.func 78) [] [.ref 140 0]] 1), (170, .cells [.fn (.func 79) [] [.ptr [.fn (.func 78) [] [.ref 140 0]]]] 1), (3000, .arr 76 2 (acc.map jQ) false)] A [.call 73 [] [.ref 130 0, .ref 120 0]] : Sg E)) ?_ (fun mz σ hI => ?_)
  ·refine gA [0, 2, 3, 4, 6, 7, 8, 51, 52] ?_
   exact ⟨_, 0, [], q, by omega, by simp, by simp, hP0, rfl, sgE rfl (by simp)⟩
  obtain ⟨k, acc, l, hk, hal, has, hP, hnn, rfl⟩ := hI
  repeat apply aA
  apply aB
  refine v0 ?_
  apply aC
  repeat apply aA
  refine cB (k1 := fun hb1 => ?_) (k0 := fun hb1 => ?_)
  ·replace hb1 := hB.h {} hb1
   repeat apply aA
   refine aR ?_
   refine cl [0, 2, 3, 4, 6, 7, 8, 51, 52] ?_
   repeat apply aA
   refine aP ?_
   repeat apply aA
   rcases aHw l with hn | ⟨d, hn⟩ | ⟨d, c, r, hn⟩
   ·have hnone : eQ (b.take (b.length - 2)) = none := by rw [hP, show nb.toNat - k = (nb.toNat - (k + 1)) + 1 by omega, aJH hn]; rfl
    repeat apply aA
    apply aB
    refine v0 ?_
    refine op0 [(0, 140)] [] [0] none (spec := aJD l hn) (hent := zH) ?_
    repeat (first | refine aO ?_ | refine aN ?_ | refine aW ?_)
    refine bP ?_
    try refine om (h3 := by simp [bM, dD, G.idl, G.idls, cL, aE, aI]) ?_
    refine eY [130, 120, 3000] [(0, 130), (1, 120), (2, 3000)] (spec := jS 8 (by omega) (.int .i64 v.1) (.int .i64 v.2) (.int .i64 (st.toNat : Nat)) acc.length ((acc.map jQ))) (hent := nB) ?_
    refine cV ?_
    refine fp2 ?_
    rw [xA hnone]
    rfl
   ·have hnone : eQ (b.take (b.length - 2)) = none := by rw [hP, show nb.toNat - k = (nb.toNat - (k + 1)) + 1 by omega, aJI hn]; rfl
    repeat apply aA
    apply aB
    refine v0 ?_
    refine oc0 [(0, 140)] [] [0] none (spec := aEn l d [] hn) (hent := zH) ?_
    refine v0 ?_
    refine n1 190 false (hc := jC.h {}) ?_
    refine s1 (hc := jC.h {}) ?_
    apply aC
    refine cl [0, 2, 3, 4, 6, 7, 8, 9, 51, 52] ?_
    repeat apply aA
    refine ad 190 1 3010 79 4 false ?_
    apply aB
    refine v0 ?_
    refine op0 [(0, 140)] [] [0] none (spec := aBj) (hent := nA) ?_
    repeat (first | refine aO ?_ | refine aN ?_ | refine aW ?_)
    refine bP ?_
    try refine om (h3 := by simp [bM, dD, G.idl, G.idls, cL, aE, aI]) ?_
    refine eY [130, 120, 3000] [(0, 130), (1, 120), (2, 3000)] (spec := jS 8 (by omega) (.int .i64 v.1) (.int .i64 v.2) (.int .i64 (st.toNat : Nat)) acc.length ((acc.map jQ))) (hent := nB) ?_
    refine cV ?_
    refine fp2 ?_
    rw [xA hnone]
    rfl
   ·have hc8 := UInt8.toNat_lt c
    repeat apply aA
    apply aB
    refine v0 ?_
    refine oc0 [(0, 140)] [] [0] none (spec := aEn l d (c :: r) hn) (hent := zH) ?_
    refine v0 ?_
    refine n1 190 false (hc := jC.h {}) ?_
    refine s1 (hc := jC.h {}) ?_
    apply aC
    refine cl [0, 2, 3, 4, 6, 7, 8, 9, 51, 52] ?_
    repeat apply aA
    refine ad 190 1 3010 79 4 false ?_
    apply aB
    refine v0 ?_
    refine oc0 [(0, 140)] [] [0] none (spec := oR c r) (hent := nA) ?_
    refine v0 ?_
    apply aC
    refine cl [0, 2, 3, 4, 6, 7, 8, 9, 51, 52, 58, 59] ?_
    repeat apply aA
    refine aP ?_
    repeat apply aA
    refine cI (fun mz σ => ∃ (j : Nat) (sp : List Spt) (l2 : List UInt8), (j ≤ c.toNat) ∧ (sp.length ≤ j) ∧ (eQ (b.take (b.length - 2)) = aJG v (st.toNat : Nat) (aJF (nb.toNat - (k + 1)) acc d (uT (c.toNat - j) sp l2))) ∧ mz = c.toNat - j ∧ σ = (sg [(0, .p (.list (u8s b))), (2, .ref 120 0), (3, .ref 130 0), (4, .ref 140 0), (6, .ref 160 0), (7, .ref 170 0), (8, .fn (.func 80) [] [.ptr [.fn (.func 79) [] [.ptr [.fn (.func 78) [] [.ref 140 0]]]]]), (9, .ref 190 0), (51, .p (.int .i64 (nb.toNat : Nat))), (52, .p (.int .i64 (k : Nat))), (58, .p (.int .i64 (c.toNat : Nat))), (59, .p (.int .i64 (j : Nat)))] [(120, .cells [.p (.int .i64 v.1), .p (.int .i64 v.2), .own 3000 acc.length, .p (.int .i64 (st.toNat : Nat))] 0), (130, .cells [.p (.int .i64 0)] 0), (140, .cells [.p (.list (u8s l2))] 0), (160, .cells [.fn (.func 78) [] [.ref 140 0]] 1), (170, .cells [.fn (.func 79) [] [.ptr [.fn (.func 78) [] [.ref 140 0]]]] 1), (190, .cells [.p (.int .i64 d), .own 3010 sp.length] 0), (3000, .arr 76 2 (acc.map jQ) false), (3010, .arr 79 4 (sp.map pP) false)] A [.call 73 [] [.ref 130 0, .ref 120 0]] : Sg E)) ?_ (fun mz σ hI => ?_)
    ·refine gA [0, 2, 3, 4, 6, 7, 8, 9, 51, 52, 58, 59] ?_
     exact ⟨_, 0, [], r, by omega, by simp, by rw [hP, show nb.toNat - k = (nb.toNat - (k + 1)) + 1 by omega, aLg hn, Nat.sub_zero], rfl, sgE rfl (by simp)⟩
    obtain ⟨j, sp, l2, hj, hsl, hP2, hnj, rfl⟩ := hI
    repeat apply aA
    apply aB
    refine v0 ?_
    apply aC
    repeat apply aA
    refine cB (k1 := fun hb2 => ?_) (k0 := fun hb2 => ?_)
    ·replace hb2 := hB.h {} hb2
     repeat apply aA
     refine aR ?_
     refine cl [0, 2, 3, 4, 6, 7, 8, 9, 51, 52, 58, 59] ?_
     repeat apply aA
     refine aP ?_
     repeat apply aA
     rcases aHx l2 with h1 | ⟨e, r2, h1, h2⟩ | ⟨e, r2, nn, q2, h1, h2⟩
     ·have hnone : eQ (b.take (b.length - 2)) = none := by rw [hP2, show c.toNat - j = (c.toNat - (j + 1)) + 1 by omega, aGr (aHs h1)]; rfl
      repeat apply aA
      refine rd ?_
      refine da0 0 ?_
      refine d0 1 ?_
      refine da0 2 ?_
      refine psS 3 ?_
      refine psa 4 ?_
      refine psd 5 ?_
      refine psd 6 ?_
      refine psd 7 ?_
      refine psd 8 ?_
      refine psd 9 ?_
      refine psd 10 ?_
      refine pse 3 [0, 1, 0, 4, 0, 28, 60, 124, 255, 511, 1023] [2, 3, 63] ?_
      refine dpe [(0, 140)] [] [0] none (spec := aFy l2 h1) (hent := wY) ?_
      repeat (first | refine aO ?_ | refine aN ?_ | refine aW ?_)
      refine bP ?_
      try refine om (h3 := by simp [bM, dD, G.idl, G.idls, cL, aE, aI]) ?_
      refine eY [130, 120, 3000] [(0, 130), (1, 120), (2, 3000)] (spec := jS 8 (by omega) (.int .i64 v.1) (.int .i64 v.2) (.int .i64 (st.toNat : Nat)) acc.length ((acc.map jQ))) (hent := nB) ?_
      refine cV ?_
      refine fp2 ?_
      rw [xA hnone]
      rfl
     ·have hnone : eQ (b.take (b.length - 2)) = none := by rw [hP2, show c.toNat - j = (c.toNat - (j + 1)) + 1 by omega, aGr (aHt h1 h2)]; rfl
      repeat apply aA
      refine rd ?_
      refine da0 0 ?_
      refine d0 1 ?_
      refine da0 2 ?_
      refine eO 3 [(0, 140)] [] [0] none (spec := yL l2 e r2 h1) (hent := wY) ?_
      refine da0 4 ?_
      refine psS 5 ?_
      refine psd 6 ?_
      refine psd 7 ?_
      refine psd 8 ?_
      refine psd 9 ?_
      refine psd 10 ?_
      refine pse 5 [0, 1, 0, 4, 0, 28, 60, 124, 255, 511, 1023] [2, 3, 65] ?_
      refine dpe [(0, 140)] [] [0] none (spec := aFy r2 h2) (hent := wY) ?_
      repeat (first | refine aO ?_ | refine aN ?_ | refine aW ?_)
      refine bP ?_
      try refine om (h3 := by simp [bM, dD, G.idl, G.idls, cL, aE, aI]) ?_
      refine eY [130, 120, 3000] [(0, 130), (1, 120), (2, 3000)] (spec := jS 8 (by omega) (.int .i64 v.1) (.int .i64 v.2) (.int .i64 (st.toNat : Nat)) acc.length ((acc.map jQ))) (hent := nB) ?_
      refine cV ?_
      refine fp2 ?_
      rw [xA hnone]
      rfl
     ·repeat apply aA
      refine rd ?_
      refine da0 0 ?_
      refine d0 1 ?_
      refine da0 2 ?_
      refine eO 3 [(0, 140)] [] [0] none (spec := yL l2 e r2 h1) (hent := wY) ?_
      refine da0 4 ?_
      refine eO 5 [(0, 140)] [] [0] none (spec := yL r2 nn q2 h2) (hent := wY) ?_
      refine d0 6 ?_
      refine dn1 7 780 false (hc := jC.h {}) ?_
      refine dn1 8 790 false (hc := jC.h {}) ?_
      refine da0 9 ?_
      refine ds1 10 (hc := jC.h {}) ?_
      refine dz 11 [0, 1, 0, 4, 0, 28, 60, 124, 255, 511, 1023] ?_
      refine de 11 ?_
      refine cl [0, 2, 3, 4, 6, 7, 8, 9, 51, 52, 58, 59] ?_
      repeat apply aA
      apply aB
      refine v1 (hc := jC.h {}) ?_
      refine v0 ?_
      apply aC
      refine eC [0, 2, 3, 4, 6, 7, 8, 9, 51, 52, 58, 59] (h := ?_) (hV := ?_) (n' := c.toNat - (j + 1))
      ·omega
      refine ⟨j + 1, sp ++ [⟨e, nn⟩], q2, by omega, ?_, ?_, by omega, sgE rfl ?_⟩
      ·rw [List.length_append]; simp; omega
      ·rw [hP2, show c.toNat - j = (c.toNat - (j + 1)) + 1 by omega, aLh (aJJ h1 h2)]
      ·simp [pP]
    ·replace hb2 := hB.h {} hb2
     repeat apply aA
     refine bV ?_
     repeat (first | refine bH ?_ | refine aY ?_ | refine bC ?_ | refine bI rfl ?_)
     refine cl [0, 2, 3, 4, 6, 7, 8, 9, 51, 52] ?_
     repeat apply aA
     obtain rfl : j = c.toNat := by omega
     refine pL 3010 (by (simp only [aE, aI, Nat.reduceEqDiff, reduceIte] <;> rfl)) ?_
     refine nC 190 1 .p (by (simp only [aE, aI, Nat.reduceEqDiff, reduceIte] <;> rfl)) (by rfl) (by simp only [cvS, toP, aE, aI, Nat.reduceEqDiff, reduceIte] <;> rfl) (by simp) rfl (by simp only [List.set_cons_zero, List.set_cons_succ] <;> rfl) ?_
     apply aB
     iterate 3 refine v0 ?_
     refine n1 850 false (hc := jC.h {}) ?_
     refine n1 860 false (hc := jC.h {}) ?_
     refine v0 ?_
     refine s1 (hc := jC.h {}) ?_
     apply aC
     refine cl [0, 2, 3, 4, 6, 7, 8, 51, 52] ?_
     repeat apply aA
     apply aB
     refine v1 (hc := jC.h {}) ?_
     refine v0 ?_
     apply aC
     refine eC [0, 2, 3, 4, 6, 7, 8, 51, 52] (h := ?_) (hV := ?_) (n' := nb.toNat - (k + 1))
     ·omega
     refine ⟨k + 1, acc ++ [⟨d, sp⟩], l2, by omega, ?_, ?_, ?_, by omega, sgE rfl ?_⟩
     ·rw [List.length_append]; simp; omega
     ·intro x hx; rcases List.mem_append.1 hx with hx | hx
      ·exact has x hx
      ·rw [List.mem_singleton] at hx; subst hx; show sp.length ≤ 255; omega
     ·rw [hP2, Nat.sub_self, aLf]; rfl
     ·simp [jQ]
  ·replace hb1 := hB.h {} hb1
   repeat apply aA
   refine bV ?_
   repeat (first | refine bH ?_ | refine aY ?_ | refine bC ?_ | refine bI rfl ?_)
   refine cl [0, 2, 3, 4] ?_
   repeat apply aA
   obtain rfl : k = nb.toNat := by omega
   rw [Nat.sub_self, aLe] at hP
   have hP4 : eQ (b.take (b.length - 2)) = some ((⟨v, acc, (st.toNat : Nat)⟩ : Sch), l) := hP
   refine pL 3000 (by (simp only [aE, aI, Nat.reduceEqDiff, reduceIte] <;> rfl)) ?_
   refine nC 120 2 .p (by (simp only [aE, aI, Nat.reduceEqDiff, reduceIte] <;> rfl)) (by rfl) (by simp only [cvS, toP, aE, aI, Nat.reduceEqDiff, reduceIte] <;> rfl) (by simp) rfl (by simp only [List.set_cons_zero, List.set_cons_succ] <;> rfl) ?_
   have hcase : (l = [] ∧ (⟨v, acc, (st.toNat : Nat)⟩ : Sch).valid = true ∧ oO (⟨v, acc, (st.toNat : Nat)⟩ : Sch) = b) ∨ (l = [] ∧ (⟨v, acc, (st.toNat : Nat)⟩ : Sch).valid = true ∧ oO (⟨v, acc, (st.toNat : Nat)⟩ : Sch) ≠ b) ∨ (l = [] ∧ (⟨v, acc, (st.toNat : Nat)⟩ : Sch).valid = false) ∨ (l ≠ [] ∧ (⟨v, acc, (st.toNat : Nat)⟩ : Sch).valid = true) ∨ (l ≠ [] ∧ (⟨v, acc, (st.toNat : Nat)⟩ : Sch).valid = false) := by
    cases hv : (⟨v, acc, (st.toNat : Nat)⟩ : Sch).valid <;> by_cases hl : l = [] <;> by_cases hb : oO (⟨v, acc, (st.toNat : Nat)⟩ : Sch) = b <;> simp [hl, hb]
   rcases hcase with ⟨rfl, hv, hb⟩ | ⟨rfl, hv, hb⟩ | ⟨rfl, hv⟩ | ⟨hl, hv⟩ | ⟨hl, hv⟩
   ·repeat apply aA
    apply aB
    refine v0 ?_
    refine oc0 [(220, 3600)] [] [0] none (spec := vM (⟨v, acc, (st.toNat : Nat)⟩ : Sch) hv) (hent := aCe) ?_
    iterate 5 refine v0 ?_
    apply aC
    refine cl [0, 2, 3, 4, 10, 11] ?_
    repeat apply aA
    apply aB
    iterate 3 refine v0 ?_
    refine rb 86 true (h := by (first | rfl | simp)) ?_
    refine v0 ?_
    iterate 2 refine w0 ?_
    refine rb 89 true (h := by (first | with_reducible rfl | exact decide_eq_true (by omega) | rfl | decide)) ?_
    iterate 2 refine v0 ?_
    iterate 2 refine w0 ?_
    refine aIL 3600 (by (simp only [aE, aI, Nat.reduceEqDiff, reduceIte] <;> rfl)) ?_
    refine ocv 92 .p (hc := by first | (rw [bU]; done) | (rw [bU, hb]; done)) (k := ?_)
    refine pcw (spec := aAh (oO (⟨v, acc, (st.toNat : Nat)⟩ : Sch)) b (by have := vO hv; omega)) (hent := aGo) ?_
    refine rb 94 true (h := by (exact decide_eq_true hb)) ?_
    refine v0 ?_
    refine pc0 (spec := bG _) (hent := bX) ?_
    apply aC
    refine cl [2, 3] ?_
    repeat apply aA
    apply aB
    refine v0 ?_
    iterate 2 refine s1 (hc := jC.h {}) ?_
    apply aC
    repeat apply aA
    refine aL ?_
    repeat (first | refine aH ?_ | refine aF ?_ | refine aD ?_)
    refine tE ?_
    try refine om (h3 := by simp [bM, dD, G.idl, G.idls, cL, aE, aI]) ?_
    refine eY [130, 120] [(0, 130), (1, 120)] (spec := aJE (.int .i64 v.1) (.int .i64 v.2) (.list (acc.map jQ)) (.int .i64 (st.toNat : Nat))) (hent := nB) ?_
    refine cV ?_
    refine fp2 ?_
    rw [aOr hP4 hv hb]
    rfl
   ·repeat apply aA
    apply aB
    refine v0 ?_
    refine oc0 [(220, 3600)] [] [0] none (spec := vM (⟨v, acc, (st.toNat : Nat)⟩ : Sch) hv) (hent := aCe) ?_
    iterate 5 refine v0 ?_
    apply aC
    refine cl [0, 2, 3, 4, 10, 11] ?_
    repeat apply aA
    apply aB
    iterate 3 refine v0 ?_
    refine rb 86 true (h := by (first | rfl | simp)) ?_
    refine v0 ?_
    iterate 2 refine w0 ?_
    refine rb 89 true (h := by (first | with_reducible rfl | exact decide_eq_true (by omega) | rfl | decide)) ?_
    iterate 2 refine v0 ?_
    iterate 2 refine w0 ?_
    refine aIL 3600 (by (simp only [aE, aI, Nat.reduceEqDiff, reduceIte] <;> rfl)) ?_
    refine ocv 92 .p (hc := by first | (rw [bU]; done) | (rw [bU, hb]; done)) (k := ?_)
    refine pcw (spec := aAh (oO (⟨v, acc, (st.toNat : Nat)⟩ : Sch)) b (by have := vO hv; omega)) (hent := aGo) ?_
    refine rb 94 false (h := by (exact decide_eq_false hb)) ?_
    refine v0 ?_
    refine pp0 (spec := dE _) (hent := bX) ?_
    repeat (first | refine aO ?_ | refine aN ?_ | refine aW ?_)
    refine bP ?_
    try refine om (h3 := by simp [bM, dD, G.idl, G.idls, cL, aE, aI]) ?_
    refine eY [130, 120] [(0, 130), (1, 120)] (spec := aAi 8 (by omega) (.int .i64 v.1) (.int .i64 v.2) (.list (acc.map jQ)) (.int .i64 (st.toNat : Nat))) (hent := nB) ?_
    refine cV ?_
    refine fp2 ?_
    rw [aGs hP4 (fun hh => ?_)]
    ·rfl
    ·exact hb hh.2.2
   ·repeat apply aA
    apply aB
    refine v0 ?_
    refine oc0 [] [] [0] none (spec := aBh (⟨v, acc, (st.toNat : Nat)⟩ : Sch) hv (by show acc.length ≤ _; omega) (fun x hx => by have := has x hx; omega)) (hent := aCe) ?_
    iterate 5 refine v0 ?_
    apply aC
    refine cl [0, 2, 3, 4, 10, 11] ?_
    repeat apply aA
    apply aB
    iterate 3 refine v0 ?_
    refine rb 86 true (h := by (first | rfl | simp)) ?_
    refine v0 ?_
    iterate 2 refine w0 ?_
    refine rb 89 false (h := by (first | with_reducible rfl | exact decide_eq_false (by omega) | rfl | decide)) ?_
    iterate 2 refine v0 ?_
    iterate 3 refine x0 ?_
    refine v0 ?_
    refine pp0 (spec := dE _) (hent := bX) ?_
    repeat (first | refine aO ?_ | refine aN ?_ | refine aW ?_)
    refine bP ?_
    try refine om (h3 := by simp [bM, dD, G.idl, G.idls, cL, aE, aI]) ?_
    refine eY [130, 120] [(0, 130), (1, 120)] (spec := aAi 8 (by omega) (.int .i64 v.1) (.int .i64 v.2) (.list (acc.map jQ)) (.int .i64 (st.toNat : Nat))) (hent := nB) ?_
    refine cV ?_
    refine fp2 ?_
    rw [aGs hP4 (fun hh => ?_)]
    ·rfl
    ·rw [hh.2.1] at hv; cases hv
   ·repeat apply aA
    apply aB
    refine v0 ?_
    refine oc0 [(220, 3600)] [] [0] none (spec := vM (⟨v, acc, (st.toNat : Nat)⟩ : Sch) hv) (hent := aCe) ?_
    iterate 5 refine v0 ?_
    apply aC
    refine cl [0, 2, 3, 4, 10, 11] ?_
    repeat apply aA
    apply aB
    iterate 3 refine v0 ?_
    refine rb 86 false (h := by (exact decide_eq_false (fun e => hl (List.eq_nil_of_length_eq_zero (by omega))))) ?_
    refine v0 ?_
    iterate 2 refine x0 ?_
    iterate 2 refine v0 ?_
    iterate 3 refine x0 ?_
    refine v0 ?_
    refine pp0 (spec := dE _) (hent := bX) ?_
    repeat (first | refine aO ?_ | refine aN ?_ | refine aW ?_)
    refine bP ?_
    try refine om (h3 := by simp [bM, dD, G.idl, G.idls, cL, aE, aI]) ?_
    refine eY [130, 120] [(0, 130), (1, 120)] (spec := aAi 8 (by omega) (.int .i64 v.1) (.int .i64 v.2) (.list (acc.map jQ)) (.int .i64 (st.toNat : Nat))) (hent := nB) ?_
    refine cV ?_
    refine fp2 ?_
    rw [aGs hP4 (fun hh => ?_)]
    ·rfl
    ·exact hl hh.1
   ·repeat apply aA
    apply aB
    refine v0 ?_
    refine oc0 [] [] [0] none (spec := aBh (⟨v, acc, (st.toNat : Nat)⟩ : Sch) hv (by show acc.length ≤ _; omega) (fun x hx => by have := has x hx; omega)) (hent := aCe) ?_
    iterate 5 refine v0 ?_
    apply aC
    refine cl [0, 2, 3, 4, 10, 11] ?_
    repeat apply aA
    apply aB
    iterate 3 refine v0 ?_
    refine rb 86 false (h := by (exact decide_eq_false (fun e => hl (List.eq_nil_of_length_eq_zero (by omega))))) ?_
    refine v0 ?_
    iterate 2 refine x0 ?_
    iterate 2 refine v0 ?_
    iterate 3 refine x0 ?_
    refine v0 ?_
    refine pp0 (spec := dE _) (hent := bX) ?_
    repeat (first | refine aO ?_ | refine aN ?_ | refine aW ?_)
    refine bP ?_
    try refine om (h3 := by simp [bM, dD, G.idl, G.idls, cL, aE, aI]) ?_
    refine eY [130, 120] [(0, 130), (1, 120)] (spec := aAi 8 (by omega) (.int .i64 v.1) (.int .i64 v.2) (.list (acc.map jQ)) (.int .i64 (st.toNat : Nat))) (hent := nB) ?_
    refine cV ?_
    refine fp2 ?_
    rw [aGs hP4 (fun hh => ?_)]
    ·rfl
    ·exact hl hh.1
end
section
open Go.Gh
variable {E : Env Tryz.prog} {A : E.α}
theorem eM : aJ Tryz.prog 100 := aJ.mk Tryz.func100 (by kernel_rfl) rfl
theorem aJL : aJ Tryz.prog 113 := aJ.mk Tryz.func113 (by kernel_rfl) rfl
theorem aFA (xs : List Str) (u v : Int) (hs : cE xs) (h : dB xs = some (u, v)) : Gh.bE E 113 [.ref 0 0] (aG [(0, .cells [.p (bT xs)] 0)]) A (fun y => y = .ok (.p (.iface 193 (.agg [.int .i64 u, .int .i64 v]))) (aG [(0, .cells [.p (bT xs.tail)] 0)]) A) := by
 refine spX 7 Tryz.func113 rfl ?_
 intro C hN hL
 simp only [Gh.num, List.map_cons, List.map_nil, Nat.reduceAdd]
 repeat apply aA
 apply aB
 refine v0 ?_
 apply aC
 refine cl [0] ?_
 repeat apply aA
 apply aB
 refine v0 ?_
 refine oc0 [(0, 0)] [] [0] none (spec := eI xs u v hs h) (hent := eM) ?_
 iterate 3 refine v0 ?_
 apply aC
 repeat apply aA
 refine aL ?_
 repeat (first | refine aH ?_ | refine aF ?_ | refine aD ?_)
 refine aM ?_
 refine fh [0] ?_
 rfl
theorem aFB (xs : List Str) (hs : cE xs) (h : dB xs = none) : Gh.bE E 113 [.ref 0 0] (aG [(0, .cells [.p (bT xs)] 0)]) A (fun y => y = .panic (.iface 218 (.agg [.int .i64 8])) (aG [(0, .cells [.p (bT xs.tail)] 0)]) A) := by
 refine spX 7 Tryz.func113 rfl ?_
 intro C hN hL
 simp only [Gh.num, List.map_cons, List.map_nil, Nat.reduceAdd]
 repeat apply aA
 apply aB
 refine v0 ?_
 apply aC
 refine cl [0] ?_
 repeat apply aA
 apply aB
 refine v0 ?_
 refine op0 [(0, 0)] [] [0] none (spec := kY xs hs h) (hent := eM) ?_
 repeat (first | refine aO ?_ | refine aN ?_)
 refine fph [0] ?_
 rfl
theorem aJM : aJ Tryz.prog 101 := aJ.mk Tryz.func101 (by kernel_rfl) rfl
theorem aHy (xs : List Str) (u v : Int) (hs : cE xs) (h : dB xs = some (u, v)) : Gh.bE E 101 [.ref 0 0] (aG [(0, .cells [.p (bT xs)] 0)]) A (fun y => y = .ok (.p (.iface 171 (.agg [.int .i64 u, .int .i64 v]))) (aG [(0, .cells [.p (bT xs.tail)] 0)]) A) := by
 refine spX 7 Tryz.func101 rfl ?_
 intro C hN hL
 simp only [Gh.num, List.map_cons, List.map_nil, Nat.reduceAdd]
 repeat apply aA
 apply aB
 refine v0 ?_
 apply aC
 refine cl [0] ?_
 repeat apply aA
 apply aB
 refine v0 ?_
 refine oc0 [(0, 0)] [] [0] none (spec := eI xs u v hs h) (hent := eM) ?_
 iterate 3 refine v0 ?_
 apply aC
 repeat apply aA
 refine aL ?_
 repeat (first | refine aH ?_ | refine aF ?_ | refine aD ?_)
 refine aM ?_
 refine fh [0] ?_
 rfl
theorem aHz (xs : List Str) (hs : cE xs) (h : dB xs = none) : Gh.bE E 101 [.ref 0 0] (aG [(0, .cells [.p (bT xs)] 0)]) A (fun y => y = .panic (.iface 218 (.agg [.int .i64 8])) (aG [(0, .cells [.p (bT xs.tail)] 0)]) A) := by
 refine spX 7 Tryz.func101 rfl ?_
 intro C hN hL
 simp only [Gh.num, List.map_cons, List.map_nil, Nat.reduceAdd]
 repeat apply aA
 apply aB
 refine v0 ?_
 apply aC
 refine cl [0] ?_
 repeat apply aA
 apply aB
 refine v0 ?_
 refine op0 [(0, 0)] [] [0] none (spec := kY xs hs h) (hent := eM) ?_
 repeat (first | refine aO ?_ | refine aN ?_)
 refine fph [0] ?_
 rfl
end
section
open Go.Gh
variable {E : Env Tryz.prog} {A : E.α}
theorem aLJ : aJ Tryz.prog 98 := aJ.mk Tryz.func98 (by kernel_rfl) rfl
theorem aJN (xs : List Str) (n u v a b : Int) (hs : cE xs) (h1 : mT xs = some n) (h2 : dB xs.tail = some (u, v)) (h3 : dB xs.tail.tail = some (a, b)) : Gh.bE E 98 [.ref 0 0] (aG [(0, .cells [.p (bT xs)] 0)]) A (fun y => y = .ok (.p (.iface 168 (.agg [.int .i64 n, .int .i64 u, .int .i64 v, .int .i64 a, .int .i64 b]))) (aG [(0, .cells [.p (bT xs.tail.tail.tail)] 0)]) A) := by
 refine spX 11 Tryz.func98 rfl ?_
 intro C hN hL
 simp only [Gh.num, List.map_cons, List.map_nil, Nat.reduceAdd]
 repeat apply aA
 apply aB
 refine v0 ?_
 apply aC
 refine cl [0] ?_
 repeat apply aA
 apply aB
 refine v0 ?_
 refine oc0 [(0, 0)] [] [0] none (spec := pD xs n hs h1) (hent := sO) ?_
 refine v0 ?_
 refine oc0 [(0, 0)] [] [0] none (spec := eI xs.tail u v (cU hs) h2) (hent := eM) ?_
 refine v0 ?_
 refine oc0 [(0, 0)] [] [0] none (spec := eI xs.tail.tail a b (cU (cU hs)) h3) (hent := eM) ?_
 iterate 3 refine v0 ?_
 apply aC
 repeat apply aA
 refine aL ?_
 repeat (first | refine aH ?_ | refine aF ?_ | refine aD ?_)
 refine aM ?_
 refine fh [0] ?_
 rfl
theorem aHA (xs : List Str) (hs : cE xs) (h1 : mT xs = none) : Gh.bE E 98 [.ref 0 0] (aG [(0, .cells [.p (bT xs)] 0)]) A (fun y => y = .panic (.iface 218 (.agg [.int .i64 8])) (aG [(0, .cells [.p (bT xs.tail)] 0)]) A) := by
 refine spX 11 Tryz.func98 rfl ?_
 intro C hN hL
 simp only [Gh.num, List.map_cons, List.map_nil, Nat.reduceAdd]
 repeat apply aA
 apply aB
 refine v0 ?_
 apply aC
 refine cl [0] ?_
 repeat apply aA
 apply aB
 refine v0 ?_
 refine op0 [(0, 0)] [] [0] none (spec := aAe xs hs h1) (hent := sO) ?_
 repeat (first | refine aO ?_ | refine aN ?_)
 refine fph [0] ?_
 rfl
theorem aHB (xs : List Str) (n : Int) (hs : cE xs) (h1 : mT xs = some n) (h2 : dB xs.tail = none) : Gh.bE E 98 [.ref 0 0] (aG [(0, .cells [.p (bT xs)] 0)]) A (fun y => y = .panic (.iface 218 (.agg [.int .i64 8])) (aG [(0, .cells [.p (bT xs.tail.tail)] 0)]) A) := by
 refine spX 11 Tryz.func98 rfl ?_
 intro C hN hL
 simp only [Gh.num, List.map_cons, List.map_nil, Nat.reduceAdd]
 repeat apply aA
 apply aB
 refine v0 ?_
 apply aC
 refine cl [0] ?_
 repeat apply aA
 apply aB
 refine v0 ?_
 refine oc0 [(0, 0)] [] [0] none (spec := pD xs n hs h1) (hent := sO) ?_
 refine v0 ?_
 refine op0 [(0, 0)] [] [0] none (spec := kY xs.tail (cU hs) h2) (hent := eM) ?_
 repeat (first | refine aO ?_ | refine aN ?_)
 refine fph [0] ?_
 rfl
theorem aHC (xs : List Str) (n u v : Int) (hs : cE xs) (h1 : mT xs = some n) (h2 : dB xs.tail = some (u, v)) (h3 : dB xs.tail.tail = none) : Gh.bE E 98 [.ref 0 0] (aG [(0, .cells [.p (bT xs)] 0)]) A (fun y => y = .panic (.iface 218 (.agg [.int .i64 8])) (aG [(0, .cells [.p (bT xs.tail.tail.tail)] 0)]) A) := by
 refine spX 11 Tryz.func98 rfl ?_
 intro C hN hL
 simp only [Gh.num, List.map_cons, List.map_nil, Nat.reduceAdd]
 repeat apply aA
 apply aB
 refine v0 ?_
 apply aC
 refine cl [0] ?_
 repeat apply aA
 apply aB
 refine v0 ?_
 refine oc0 [(0, 0)] [] [0] none (spec := pD xs n hs h1) (hent := sO) ?_
 refine v0 ?_
 refine oc0 [(0, 0)] [] [0] none (spec := eI xs.tail u v (cU hs) h2) (hent := eM) ?_
 refine v0 ?_
 refine op0 [(0, 0)] [] [0] none (spec := kY xs.tail.tail (cU (cU hs)) h3) (hent := eM) ?_
 repeat (first | refine aO ?_ | refine aN ?_)
 refine fph [0] ?_
 rfl
def aGu (r : List Str) : List Str := match mT r with
 | none => r.tail
 | some _ => match dB r.tail with
  | none => r.tail.tail
  | some _ => r.tail.tail.tail
theorem aJO (xs : List Str) (h : Int × (Int × Int) × (Int × Int)) (hs : cE xs) (hh : wO xs = some h) : Gh.bE E 98 [.ref 0 0] (aG [(0, .cells [.p (bT xs)] 0)]) A (fun y => y = .ok (.p (.iface 168 (.agg [.int .i64 h.1, .int .i64 h.2.1.1, .int .i64 h.2.1.2, .int .i64 h.2.2.1, .int .i64 h.2.2.2]))) (aG [(0, .cells [.p (bT xs.tail.tail.tail)] 0)]) A) := by
 unfold wO at hh
 split at hh
 ·cases hh
 ·rename_i n h1
  split at hh
  ·cases hh
  ·rename_i u h2
   split at hh
   ·cases hh
   ·rename_i v h3
    cases hh
    exact aJN xs n u.1 u.2 v.1 v.2 hs h1 h2 h3
theorem aJP (xs : List Str) (hs : cE xs) (hh : wO xs = none) : Gh.bE E 98 [.ref 0 0] (aG [(0, .cells [.p (bT xs)] 0)]) A (fun y => y = .panic (.iface 218 (.agg [.int .i64 8])) (aG [(0, .cells [.p (bT (aGu xs))] 0)]) A) := by
 unfold wO at hh
 split at hh
 ·rename_i h1
  unfold aGu
  rw [h1]
  exact aHA xs hs h1
 ·rename_i n h1
  split at hh
  ·rename_i h2
   unfold aGu
   rw [h1]
   simp only
   rw [h2]
   exact aHB xs n hs h1 h2
  ·rename_i u h2
   split at hh
   ·rename_i h3
    unfold aGu
    rw [h1]
    simp only
    rw [h2]
    exact aHC xs n u.1 u.2 hs h1 h2 h3
   ·cases hh
theorem aDd : aJ Tryz.prog 103 := aJ.mk Tryz.func103 (by kernel_rfl) rfl
theorem aLi (xs : List Str) (n k w : Int) (hs : cE xs) (h1 : mT xs = some n) (h2 : mT xs.tail = some k) : Gh.bE E 103 [.ref 0 0, .p (.ptr [.int .i64 w])] (aG [(0, .cells [.p (bT xs)] 0)]) A (fun y => y = .ok (.p (.iface 172 (.agg [.int .i64 n, .int .i64 k, .bool (decide (w = 1))]))) (aG [(0, .cells [.p (bT xs.tail.tail)] 0)]) A) := by
 refine spX 12 Tryz.func103 rfl ?_
 intro C hN hL
 simp only [Gh.num, List.map_cons, List.map_nil, Nat.reduceAdd]
 repeat apply aA
 apply aB
 refine v0 ?_
 apply aC
 refine cl [0, 1] ?_
 repeat apply aA
 refine pr0 1 ?_
 refine rd ?_
 refine da0 0 ?_
 refine eO 1 [(0, 0)] [] [0] none (spec := pD xs n hs h1) (hent := sO) ?_
 refine da0 2 ?_
 refine eO 3 [(0, 0)] [] [0] none (spec := pD xs.tail k (cU hs) h2) (hent := sO) ?_
 refine d0 4 ?_
 refine d0 5 ?_
 refine d0 6 ?_
 refine d0 7 ?_
 refine da0 8 ?_
 refine dz 9 [0, 1, 0, 7, 0, 16, 63, 127, 255] ?_
 refine de 9 ?_
 repeat apply aA
 refine aL ?_
 repeat (first | refine aH ?_ | refine aF ?_ | refine aD ?_)
 refine aM ?_
 refine fh [0] ?_
 rfl
theorem aJQ (xs : List Str) (w : Int) (hs : cE xs) (h1 : mT xs = none) : Gh.bE E 103 [.ref 0 0, .p (.ptr [.int .i64 w])] (aG [(0, .cells [.p (bT xs)] 0)]) A (fun y => y = .panic (.iface 218 (.agg [.int .i64 8])) (aG [(0, .cells [.p (bT xs.tail)] 0)]) A) := by
 refine spX 12 Tryz.func103 rfl ?_
 intro C hN hL
 simp only [Gh.num, List.map_cons, List.map_nil, Nat.reduceAdd]
 repeat apply aA
 apply aB
 refine v0 ?_
 apply aC
 refine cl [0, 1] ?_
 repeat apply aA
 refine pr0 1 ?_
 refine rd ?_
 refine da0 0 ?_
 refine psS 1 ?_
 refine psa 2 ?_
 refine psd 3 ?_
 refine psv 4 ?_
 refine psv 5 ?_
 refine psd 6 ?_
 refine psd 7 ?_
 refine psd 8 ?_
 refine pse 1 [0, 1, 0, 7, 0, 16, 63, 127, 255] [4] ?_
 refine dpe [(0, 0)] [] [0] none (spec := aAe xs hs h1) (hent := sO) ?_
 repeat (first | refine aO ?_ | refine aN ?_)
 refine fph [0] ?_
 rfl
theorem aJR (xs : List Str) (n w : Int) (hs : cE xs) (h1 : mT xs = some n) (h2 : mT xs.tail = none) : Gh.bE E 103 [.ref 0 0, .p (.ptr [.int .i64 w])] (aG [(0, .cells [.p (bT xs)] 0)]) A (fun y => y = .panic (.iface 218 (.agg [.int .i64 8])) (aG [(0, .cells [.p (bT xs.tail.tail)] 0)]) A) := by
 refine spX 12 Tryz.func103 rfl ?_
 intro C hN hL
 simp only [Gh.num, List.map_cons, List.map_nil, Nat.reduceAdd]
 repeat apply aA
 apply aB
 refine v0 ?_
 apply aC
 refine cl [0, 1] ?_
 repeat apply aA
 refine pr0 1 ?_
 refine rd ?_
 refine da0 0 ?_
 refine eO 1 [(0, 0)] [] [0] none (spec := pD xs n hs h1) (hent := sO) ?_
 refine da0 2 ?_
 refine psS 3 ?_
 refine psv 4 ?_
 refine psv 5 ?_
 refine psd 6 ?_
 refine psd 7 ?_
 refine psd 8 ?_
 refine pse 3 [0, 1, 0, 7, 0, 16, 63, 127, 255] [6] ?_
 refine dpe [(0, 0)] [] [0] none (spec := aAe xs.tail (cU hs) h2) (hent := sO) ?_
 repeat (first | refine aO ?_ | refine aN ?_)
 refine fph [0] ?_
 rfl
def aNu (r : List Str) : List Str := match mT r with
 | none => r.tail
 | some _ => r.tail.tail
theorem aGv (xs : List Str) (w : Int) (s : Stg) (hs : cE xs) (hh : wQ xs (decide (w = 1)) = some s) : Gh.bE E 103 [.ref 0 0, .p (.ptr [.int .i64 w])] (aG [(0, .cells [.p (bT xs)] 0)]) A (fun y => y = .ok (.p (.iface 172 (fS s))) (aG [(0, .cells [.p (bT xs.tail.tail)] 0)]) A) := by
 unfold wQ at hh
 split at hh
 ·cases hh
 ·rename_i n h1
  split at hh
  ·cases hh
  ·rename_i k h2
   cases hh
   exact aLi xs n k w hs h1 h2
theorem aGw (xs : List Str) (w : Int) (rv : Bool) (hs : cE xs) (hh : wQ xs rv = none) : Gh.bE E 103 [.ref 0 0, .p (.ptr [.int .i64 w])] (aG [(0, .cells [.p (bT xs)] 0)]) A (fun y => y = .panic (.iface 218 (.agg [.int .i64 8])) (aG [(0, .cells [.p (bT (aNu xs))] 0)]) A) := by
 unfold wQ at hh
 split at hh
 ·rename_i h1
  unfold aNu
  rw [h1]
  exact aJQ xs w hs h1
 ·rename_i n h1
  split at hh
  ·rename_i h2
   unfold aNu
   rw [h1]
   exact aJR xs n w hs h1 h2
  ·cases hh
end
section
open Go.Gh
variable {E : Env Tryz.prog} {A : E.α}
structure yM (c : Prop) : Prop where
 h : c := by (first | exact True.intro | omega | (simp only [inI]; omega) | (simp [P.size, bR, bF, bN, bB, cR, good, G.one, P.one, P.cells] <;> first | omega | assumption | simp_all))
theorem aJS : aJ Tryz.prog 114 := aJ.mk Tryz.func114 (by kernel_rfl) rfl
theorem aJT (xs : List Str) (x v : Int × Int) (hs : cE xs) (h1 : dB xs = some (x.1, x.2)) (h2 : dB xs.tail = some (v.1, v.2)) (hr : xs.tail.tail = []) : Gh.bE E 114 [.ref 0 0] (aG [(0, .cells [.p (bT xs)] 0)]) A (fun y => y = .ok (.p (.iface 195 (.agg [.int .i64 x.1, .int .i64 x.2, .int .i64 v.1, .int .i64 v.2, .bool false, .int .i64 0, .int .i64 0, .int .i64 0, .int .i64 0]))) (aG [(0, .cells [.p (bT ([] : List Str))] 0)]) A) := by
 refine spX 27 Tryz.func114 rfl ?_
 intro C hN hL
 simp only [Gh.num, List.map_cons, List.map_nil, Nat.reduceAdd]
 have hst : ∀ xs : List Str, bT xs = .list (xs.map P.str) := fun _ => rfl
 repeat apply aA
 apply aB
 refine v0 ?_
 apply aC
 refine cl [0] ?_
 repeat apply aA
 apply aB
 refine v0 ?_
 refine oc0 [(0, 0)] [] [0] none (spec := eI xs x.1 x.2 hs h1) (hent := eM) ?_
 refine v0 ?_
 refine oc0 [(0, 0)] [] [0] none (spec := eI xs.tail v.1 v.2 (cU hs) h2) (hent := eM) ?_
 refine v0 ?_
 refine n1 130 false (hc := yM.h {}) ?_
 refine s1 (hc := yM.h {}) ?_
 apply aC
 refine cl [0, 3] ?_
 repeat apply aA
 rw [hr]
 apply aB
 iterate 6 refine v0 ?_
 refine rb 14 false (h := by (first | with_reducible rfl | exact decide_eq_false (by omega) | rfl | decide)) ?_
 apply aC
 repeat apply aA
 refine cF ?_
 repeat apply aA
 refine aR ?_
 refine cl [0, 3] ?_
 repeat apply aA
 apply aB
 iterate 3 refine v0 ?_
 apply aC
 repeat apply aA
 refine aL ?_
 repeat (first | refine aH ?_ | refine aF ?_ | refine aD ?_)
 refine aM ?_
 refine fh [0] ?_
 rfl
theorem aJU (xs : List Str) (x v : Int × Int) (hs : cE xs) (h1 : dB xs = some (x.1, x.2)) (h2 : dB xs.tail = some (v.1, v.2)) (k : Str) (r : List Str) (hr : xs.tail.tail = k :: r) (e n : Int × Int) (h3 : dB r = some (e.1, e.2)) (h4 : dB r.tail = some (n.1, n.2)) : Gh.bE E 114 [.ref 0 0] (aG [(0, .cells [.p (bT xs)] 0)]) A (fun y => y = .ok (.p (.iface 195 (.agg [.int .i64 x.1, .int .i64 x.2, .int .i64 v.1, .int .i64 v.2, .bool (decide (k = [107, 110, 111, 119, 110])), .int .i64 e.1, .int .i64 e.2, .int .i64 n.1, .int .i64 n.2]))) (aG [(0, .cells [.p (bT r.tail.tail)] 0)]) A) := by
 refine spX 27 Tryz.func114 rfl ?_
 intro C hN hL
 simp only [Gh.num, List.map_cons, List.map_nil, Nat.reduceAdd]
 have hst : ∀ xs : List Str, bT xs = .list (xs.map P.str) := fun _ => rfl
 have hs2 : cE r := fun x hx => hs x (List.mem_of_mem_tail (List.mem_of_mem_tail (by rw [hr]; exact List.mem_cons_of_mem _ hx)))
 repeat apply aA
 apply aB
 refine v0 ?_
 apply aC
 refine cl [0] ?_
 repeat apply aA
 apply aB
 refine v0 ?_
 refine oc0 [(0, 0)] [] [0] none (spec := eI xs x.1 x.2 hs h1) (hent := eM) ?_
 refine v0 ?_
 refine oc0 [(0, 0)] [] [0] none (spec := eI xs.tail v.1 v.2 (cU hs) h2) (hent := eM) ?_
 refine v0 ?_
 refine n1 130 false (hc := yM.h {}) ?_
 refine s1 (hc := yM.h {}) ?_
 apply aC
 refine cl [0, 3] ?_
 repeat apply aA
 rw [hr]
 apply aB
 iterate 6 refine v0 ?_
 refine rb 14 true (h := by (first | with_reducible rfl | exact decide_eq_true (by omega) | rfl | decide)) ?_
 apply aC
 repeat apply aA
 refine cT ?_
 repeat apply aA
 apply aB
 refine v0 ?_
 refine oc0 [(0, 0)] [] [0] none (spec := cN k r) (hent := dL) ?_
 iterate 2 refine v0 ?_
 refine s1 (hc := yM.h {}) ?_
 apply aC
 refine cl [0, 3] ?_
 repeat apply aA
 apply aB
 refine v0 ?_
 refine oc0 [(0, 0)] [] [0] none (spec := eI r e.1 e.2 hs2 h3) (hent := eM) ?_
 refine v0 ?_
 refine oc0 [(0, 0)] [] [0] none (spec := eI r.tail n.1 n.2 (cU hs2) h4) (hent := eM) ?_
 refine v0 ?_
 refine s1 (hc := yM.h {}) ?_
 refine v0 ?_
 refine s1 (hc := yM.h {}) ?_
 apply aC
 refine cl [0, 3] ?_
 repeat apply aA
 apply aB
 iterate 3 refine v0 ?_
 apply aC
 repeat apply aA
 refine aL ?_
 repeat (first | refine aH ?_ | refine aF ?_ | refine aD ?_)
 refine aM ?_
 refine fh [0] ?_
 rfl
theorem aHD (xs : List Str) (hs : cE xs) (h1 : dB xs = none) : Gh.bE E 114 [.ref 0 0] (aG [(0, .cells [.p (bT xs)] 0)]) A (fun y => y = .panic (.iface 218 (.agg [.int .i64 8])) (aG [(0, .cells [.p (bT xs.tail)] 0)]) A) := by
 refine spX 27 Tryz.func114 rfl ?_
 intro C hN hL
 simp only [Gh.num, List.map_cons, List.map_nil, Nat.reduceAdd]
 have hst : ∀ xs : List Str, bT xs = .list (xs.map P.str) := fun _ => rfl
 repeat apply aA
 apply aB
 refine v0 ?_
 apply aC
 refine cl [0] ?_
 repeat apply aA
 apply aB
 refine v0 ?_
 refine op0 [(0, 0)] [] [0] none (spec := kY xs hs h1) (hent := eM) ?_
 repeat (first | refine aO ?_ | refine aN ?_)
 refine fph [0] ?_
 rfl
theorem aHE (xs : List Str) (x : Int × Int) (hs : cE xs) (h1 : dB xs = some (x.1, x.2)) (h2 : dB xs.tail = none) : Gh.bE E 114 [.ref 0 0] (aG [(0, .cells [.p (bT xs)] 0)]) A (fun y => y = .panic (.iface 218 (.agg [.int .i64 8])) (aG [(0, .cells [.p (bT xs.tail.tail)] 0)]) A) := by
 refine spX 27 Tryz.func114 rfl ?_
 intro C hN hL
 simp only [Gh.num, List.map_cons, List.map_nil, Nat.reduceAdd]
 have hst : ∀ xs : List Str, bT xs = .list (xs.map P.str) := fun _ => rfl
 repeat apply aA
 apply aB
 refine v0 ?_
 apply aC
 refine cl [0] ?_
 repeat apply aA
 apply aB
 refine v0 ?_
 refine oc0 [(0, 0)] [] [0] none (spec := eI xs x.1 x.2 hs h1) (hent := eM) ?_
 refine v0 ?_
 refine op0 [(0, 0)] [] [0] none (spec := kY xs.tail (cU hs) h2) (hent := eM) ?_
 repeat (first | refine aO ?_ | refine aN ?_)
 refine fph [0] ?_
 rfl
theorem aHF (xs : List Str) (x v : Int × Int) (hs : cE xs) (h1 : dB xs = some (x.1, x.2)) (h2 : dB xs.tail = some (v.1, v.2)) (k : Str) (r : List Str) (hr : xs.tail.tail = k :: r) (h3 : dB r = none) : Gh.bE E 114 [.ref 0 0] (aG [(0, .cells [.p (bT xs)] 0)]) A (fun y => y = .panic (.iface 218 (.agg [.int .i64 8])) (aG [(0, .cells [.p (bT r.tail)] 0)]) A) := by
 refine spX 27 Tryz.func114 rfl ?_
 intro C hN hL
 simp only [Gh.num, List.map_cons, List.map_nil, Nat.reduceAdd]
 have hst : ∀ xs : List Str, bT xs = .list (xs.map P.str) := fun _ => rfl
 have hs2 : cE r := fun x hx => hs x (List.mem_of_mem_tail (List.mem_of_mem_tail (by rw [hr]; exact List.mem_cons_of_mem _ hx)))
 repeat apply aA
 apply aB
 refine v0 ?_
 apply aC
 refine cl [0] ?_
 repeat apply aA
 apply aB
 refine v0 ?_
 refine oc0 [(0, 0)] [] [0] none (spec := eI xs x.1 x.2 hs h1) (hent := eM) ?_
 refine v0 ?_
 refine oc0 [(0, 0)] [] [0] none (spec := eI xs.tail v.1 v.2 (cU hs) h2) (hent := eM) ?_
 refine v0 ?_
 refine n1 130 false (hc := yM.h {}) ?_
 refine s1 (hc := yM.h {}) ?_
 apply aC
 refine cl [0, 3] ?_
 repeat apply aA
 rw [hr]
 apply aB
 iterate 6 refine v0 ?_
 refine rb 14 true (h := by (first | with_reducible rfl | exact decide_eq_true (by omega) | rfl | decide)) ?_
 apply aC
 repeat apply aA
 refine cT ?_
 repeat apply aA
 apply aB
 refine v0 ?_
 refine oc0 [(0, 0)] [] [0] none (spec := cN k r) (hent := dL) ?_
 iterate 2 refine v0 ?_
 refine s1 (hc := yM.h {}) ?_
 apply aC
 refine cl [0, 3] ?_
 repeat apply aA
 apply aB
 refine v0 ?_
 refine op0 [(0, 0)] [] [0] none (spec := kY r hs2 h3) (hent := eM) ?_
 repeat (first | refine aO ?_ | refine aN ?_)
 refine fph [0] ?_
 rfl
theorem aHG (xs : List Str) (x v : Int × Int) (hs : cE xs) (h1 : dB xs = some (x.1, x.2)) (h2 : dB xs.tail = some (v.1, v.2)) (k : Str) (r : List Str) (hr : xs.tail.tail = k :: r) (e : Int × Int) (h3 : dB r = some (e.1, e.2)) (h4 : dB r.tail = none) : Gh.bE E 114 [.ref 0 0] (aG [(0, .cells [.p (bT xs)] 0)]) A (fun y => y = .panic (.iface 218 (.agg [.int .i64 8])) (aG [(0, .cells [.p (bT r.tail.tail)] 0)]) A) := by
 refine spX 27 Tryz.func114 rfl ?_
 intro C hN hL
 simp only [Gh.num, List.map_cons, List.map_nil, Nat.reduceAdd]
 have hst : ∀ xs : List Str, bT xs = .list (xs.map P.str) := fun _ => rfl
 have hs2 : cE r := fun x hx => hs x (List.mem_of_mem_tail (List.mem_of_mem_tail (by rw [hr]; exact List.mem_cons_of_mem _ hx)))
 repeat apply aA
 apply aB
 refine v0 ?_
 apply aC
 refine cl [0] ?_
 repeat apply aA
 apply aB
 refine v0 ?_
 refine oc0 [(0, 0)] [] [0] none (spec := eI xs x.1 x.2 hs h1) (hent := eM) ?_
 refine v0 ?_
 refine oc0 [(0, 0)] [] [0] none (spec := eI xs.tail v.1 v.2 (cU hs) h2) (hent := eM) ?_
 refine v0 ?_
 refine n1 130 false (hc := yM.h {}) ?_
 refine s1 (hc := yM.h {}) ?_
 apply aC
 refine cl [0, 3] ?_
 repeat apply aA
 rw [hr]
 apply aB
 iterate 6 refine v0 ?_
 refine rb 14 true (h := by (first | with_reducible rfl | exact decide_eq_true (by omega) | rfl | decide)) ?_
 apply aC
 repeat apply aA
 refine cT ?_
 repeat apply aA
 apply aB
 refine v0 ?_
 refine oc0 [(0, 0)] [] [0] none (spec := cN k r) (hent := dL) ?_
 iterate 2 refine v0 ?_
 refine s1 (hc := yM.h {}) ?_
 apply aC
 refine cl [0, 3] ?_
 repeat apply aA
 apply aB
 refine v0 ?_
 refine oc0 [(0, 0)] [] [0] none (spec := eI r e.1 e.2 hs2 h3) (hent := eM) ?_
 refine v0 ?_
 refine op0 [(0, 0)] [] [0] none (spec := kY r.tail (cU hs2) h4) (hent := eM) ?_
 repeat (first | refine aO ?_ | refine aN ?_)
 refine fph [0] ?_
 rfl
def aJV (xs : List Str) : List Str := match xs.tail.tail with
 | [] => []
 | _ :: r => r.tail.tail
def aLK (xs : List Str) : List Str := match dB xs with
 | none => xs.tail
 | some _ => match dB xs.tail with
  | none => xs.tail.tail
  | some _ => match xs.tail.tail with
   | [] => []
   | _ :: r => match dB r with
    | none => r.tail
    | some _ => r.tail.tail
theorem aJW (xs : List Str) (s : mV) (hs : cE xs) (hh : uR xs = some s) : Gh.bE E 114 [.ref 0 0] (aG [(0, .cells [.p (bT xs)] 0)]) A (fun y => y = .ok (.p (.iface 195 (eJ s))) (aG [(0, .cells [.p (bT (aJV xs))] 0)]) A) := by
 unfold uR at hh
 split at hh
 ·cases hh
 ·rename_i x h1
  split at hh
  ·cases hh
  ·rename_i y h2
   split at hh
   ·rename_i h3
    cases hh
    unfold aJV
    rw [h3]
    exact aJT xs x y hs h1 h2 h3
   ·rename_i k r h3
    split at hh
    ·cases hh
    ·rename_i e h4
     split at hh
     ·cases hh
     ·rename_i n h5
      cases hh
      unfold aJV
      rw [h3]
      exact aJU xs x y hs h1 h2 k r h3 e n h4 h5
theorem aJX (xs : List Str) (hs : cE xs) (hh : uR xs = none) : Gh.bE E 114 [.ref 0 0] (aG [(0, .cells [.p (bT xs)] 0)]) A (fun y => y = .panic (.iface 218 (.agg [.int .i64 8])) (aG [(0, .cells [.p (bT (aLK xs))] 0)]) A) := by
 unfold uR at hh
 unfold aLK
 split at hh
 ·rename_i h1
  rw [h1]
  exact aHD xs hs h1
 ·rename_i x h1
  rw [h1]
  simp only
  split at hh
  ·rename_i h2
   rw [h2]
   exact aHE xs x hs h1 h2
  ·rename_i y h2
   rw [h2]
   simp only
   split at hh
   ·cases hh
   ·rename_i k r h3
    rw [h3]
    simp only
    split at hh
    ·rename_i h4
     rw [h4]
     exact aHF xs x y hs h1 h2 k r h3 h4
    ·rename_i e h4
     rw [h4]
     simp only
     split at hh
     ·rename_i h5
      exact aHG xs x y hs h1 h2 k r h3 e h4 h5
     ·cases hh
end
section
open Go.Gh
variable {E : Env Tryz.prog} {A : E.α}
structure aLj (c : Prop) : Prop where
 h : c := by (first | exact True.intro | omega | (simp [P.size, List.length_map] <;> first | omega | (intro a _; rfl)) | (simp [P.size]; exact ⟨by omega, fun a _ => rfl⟩) | omega | (simp only [inI]; omega) | (simp [P.size, bR, bF, bN, bB, cR, good, G.one, P.one, P.cells] <;> first | omega | assumption | simp_all))
def uU : List Str → List Str
 | [] => []
 | x :: xs => match mT (x :: xs) with
  | none => xs
  | some _ => uU xs
theorem aHH {x : Str} {r : List Str} {l : List Int} {f : List Int → List Int} (h : (dI (x :: r)).map f = some l) : ∃ n, mT (x :: r) = some n ∧ (dI r).map (fun q => f (n :: q)) = some l := by
 rw [dI] at h
 split at h
 ·cases h
 ·rename_i n e
  refine ⟨n, e, ?_⟩
  rw [Option.map_map] at h
  exact h
theorem aHI {x : Str} {r : List Str} (h : dI (x :: r) = none) : mT (x :: r) = none ∧ uU (x :: r) = r ∨ ∃ n, mT (x :: r) = some n ∧ dI r = none ∧ uU (x :: r) = uU r := by
 rw [dI] at h
 rw [uU]
 split at h
 ·rename_i e
  rw [e]
  exact .inl ⟨rfl, rfl⟩
 ·rename_i n e
  rw [e]
  refine .inr ⟨n, rfl, ?_, rfl⟩
  cases e2 : dI r with
  | none => rfl
  | some l => rw [e2] at h; cases h
theorem aFC : aJ Tryz.prog 119 := aJ.mk Tryz.func119 (by kernel_rfl) rfl
theorem aGx (xs : List Str) (l : List Int) (hs : cE xs) (hlen : xs.length ≤ 100000) (h : dI xs = some l) : Gh.bE E 119 [.ref 0 0, .fn (.func 99) [.ref 0 0] []] (aG [(0, .cells [.p (bT xs)] 0)]) A (fun y => y = .ok (.p (.list (l.map (P.int .i64)))) (aG [(0, .cells [.p (bT [])] 0)]) A) := by
 refine spX 17 Tryz.func119 rfl ?_
 intro C hN hL
 simp only [Gh.num, List.map_cons, List.map_nil, Nat.reduceAdd]
 have hst : ∀ xs : List Str, bT xs = .list (xs.map P.str) := fun _ => rfl
 repeat apply aA
 apply aB
 refine v0 ?_
 apply aC
 refine cl [0, 1, 4] ?_
 repeat apply aA
 refine aBW ?_
 repeat apply aA
 refine aBM ?_
 repeat apply aA
 refine aP ?_
 repeat apply aA
 refine xV 4 3000 3 1 true (by simp only [aT, Nat.reduceEqDiff, reduceIte]) (by simp only [aE, aI, Nat.reduceEqDiff, reduceIte]) (by omega) ?_
 refine cI (fun mz σ => ∃ (rest : List Str) (acc : List Int), (cE rest) ∧ ((dI rest).map (fun q => acc ++ q) = some l) ∧ (acc.length + rest.length = xs.length) ∧ mz = rest.length ∧ σ = (sg [(0, .ref 0 0), (1, .fn (.func 99) [.ref 0 0] []), (4, .own 3000 acc.length)] [(0, .cells [.p (bT rest)] 0), (3000, .arr 3 1 (acc.map (P.int .i64)) true)] A [] : Sg E)) ?_ (fun mz σ hI => ?_)
 ·refine gA [0, 1, 4] ?_
  exact ⟨_, xs, [], hs, by rw [h]; rfl, by simp, rfl, rfl⟩
 obtain ⟨rest, acc, hsr, hq, hal, hnn, rfl⟩ := hI
 repeat apply aA
 refine aP ?_
 repeat apply aA
 apply aB
 iterate 6 refine v0 ?_
 apply aC
 repeat apply aA
 refine cB (k1 := fun hb1 => ?_) (k0 := fun hb1 => ?_)
 ·replace hb1 := hB.h {} hb1
  repeat apply aA
  refine bV ?_
  repeat (first | refine bH ?_ | refine aY ?_ | refine bC ?_ | refine bI rfl ?_)
  refine cl [0, 4] ?_
  repeat apply aA
  apply aB
  iterate 2 refine v0 ?_
  apply aC
  repeat apply aA
  refine aL ?_
  repeat (first | refine aH ?_ | refine aF ?_ | refine aD ?_)
  refine aM ?_
  have hr0 : rest = [] := List.eq_nil_of_length_eq_zero (by omega)
  subst hr0
  obtain rfl : acc = l := by simpa [dI] using hq
  refine fk1 [0] ?_
  rfl
 ·replace hb1 := hB.h {} hb1
  repeat apply aA
  refine aR ?_
  refine cl [0, 1, 4] ?_
  repeat apply aA
  obtain ⟨x, r, rfl⟩ : ∃ x r, rest = x :: r := List.exists_cons_of_ne_nil (fun e => by subst e; simp at *)
  have hlr : (x :: r).length = r.length + 1 := rfl
  obtain ⟨n, hn, hq2⟩ := aHH hq
  apply aB
  iterate 2 refine v0 ?_
  refine oc0 [(0, 0)] [] [0] none (spec := pD (x :: r) n hsr hn) (hent := sO) ?_
  refine n1 240 false (hc := aLj.h {}) ?_
  refine n1 250 false (hc := aLj.h {}) ?_
  refine v0 ?_
  apply aC
  repeat refine bW ?_
  refine eC [0, 1, 4] (h := ?_) (hV := ?_) (n' := mz - 1)
  ·omega
  refine ⟨r, acc ++ [n], cU hsr, ?_, ?_, ?_, sgE ?_ ?_⟩
  ·rw [← hq2]; simp
  ·rw [List.length_append]; simp; omega
  ·omega
  ·simp
  ·simp
theorem aLk (xs : List Str) (hs : cE xs) (hlen : xs.length ≤ 100000) (h : dI xs = none) : Gh.bE E 119 [.ref 0 0, .fn (.func 99) [.ref 0 0] []] (aG [(0, .cells [.p (bT xs)] 0)]) A (fun y => y = .panic (.iface 218 (.agg [.int .i64 8])) (aG [(0, .cells [.p (bT (uU xs))] 0)]) A) := by
 refine spX 17 Tryz.func119 rfl ?_
 intro C hN hL
 simp only [Gh.num, List.map_cons, List.map_nil, Nat.reduceAdd]
 have hst : ∀ xs : List Str, bT xs = .list (xs.map P.str) := fun _ => rfl
 repeat apply aA
 apply aB
 refine v0 ?_
 apply aC
 refine cl [0, 1, 4] ?_
 repeat apply aA
 refine aBW ?_
 repeat apply aA
 refine aBM ?_
 repeat apply aA
 refine aP ?_
 repeat apply aA
 refine xV 4 3000 3 1 true (by simp only [aT, Nat.reduceEqDiff, reduceIte]) (by simp only [aE, aI, Nat.reduceEqDiff, reduceIte]) (by omega) ?_
 refine cI (fun mz σ => ∃ (rest : List Str) (acc : List Int), (cE rest) ∧ (dI rest = none) ∧ (uU rest = uU xs) ∧ (acc.length + rest.length = xs.length) ∧ mz = rest.length ∧ σ = (sg [(0, .ref 0 0), (1, .fn (.func 99) [.ref 0 0] []), (4, .own 3000 acc.length)] [(0, .cells [.p (bT rest)] 0), (3000, .arr 3 1 (acc.map (P.int .i64)) true)] A [] : Sg E)) ?_ (fun mz σ hI => ?_)
 ·refine gA [0, 1, 4] ?_
  exact ⟨_, xs, [], hs, h, rfl, by simp, rfl, rfl⟩
 obtain ⟨rest, acc, hsr, hq, hrr, hal, hnn, rfl⟩ := hI
 repeat apply aA
 refine aP ?_
 repeat apply aA
 apply aB
 iterate 6 refine v0 ?_
 apply aC
 repeat apply aA
 refine cB (k1 := fun hb1 => ?_) (k0 := fun hb1 => ?_)
 ·replace hb1 := hB.h {} hb1
  repeat apply aA
  refine bV ?_
  repeat (first | refine bH ?_ | refine aY ?_ | refine bC ?_ | refine bI rfl ?_)
  refine cl [0, 4] ?_
  repeat apply aA
  apply aB
  iterate 2 refine v0 ?_
  apply aC
  repeat apply aA
  refine aL ?_
  repeat (first | refine aH ?_ | refine aF ?_ | refine aD ?_)
  refine aM ?_
  exfalso
  have hr0 : rest = [] := List.eq_nil_of_length_eq_zero (by omega)
  subst hr0
  cases hq
 ·replace hb1 := hB.h {} hb1
  repeat apply aA
  refine aR ?_
  refine cl [0, 1, 4] ?_
  repeat apply aA
  obtain ⟨x, r, rfl⟩ : ∃ x r, rest = x :: r := List.exists_cons_of_ne_nil (fun e => by subst e; simp at *)
  have hlr : (x :: r).length = r.length + 1 := rfl
  rcases aHI hq with ⟨hn, hr2⟩ | ⟨n, hn, hq2, hr2⟩
  ·repeat apply aA
   apply aB
   iterate 2 refine v0 ?_
   refine op0 [(0, 0)] [] [0] none (spec := aAe (x :: r) hsr hn) (hent := sO) ?_
   repeat (first | refine aO ?_ | refine aN ?_ | refine aW ?_)
   refine fph [0] ?_
   rw [← hrr, hr2]
   rfl
  ·repeat apply aA
   apply aB
   iterate 2 refine v0 ?_
   refine oc0 [(0, 0)] [] [0] none (spec := pD (x :: r) n hsr hn) (hent := sO) ?_
   refine n1 240 false (hc := aLj.h {}) ?_
   refine n1 250 false (hc := aLj.h {}) ?_
   refine v0 ?_
   apply aC
   repeat refine bW ?_
   refine eC [0, 1, 4] (h := ?_) (hV := ?_) (n' := mz - 1)
   ·omega
   refine ⟨r, acc ++ [n], cU hsr, hq2, ?_, ?_, ?_, sgE ?_ ?_⟩
   ·rw [← hrr, hr2]
   ·rw [List.length_append]; simp; omega
   ·omega
   ·simp
   ·simp
end
section
open Go.Gh
variable {E : Env Tryz.prog} {A : E.α}
structure aHJ (c : Prop) : Prop where
 h : c := by (first | exact True.intro | omega | (simp only [inI]; omega) | (simp [P.size, bR, bF, bN, bB, cR, good, G.one, P.one, P.cells] <;> first | omega | assumption | simp_all))
theorem yN : aJ Tryz.prog 118 := aJ.mk Tryz.func118 (by kernel_rfl) rfl
theorem aBm (xs : List Str) (hs : cE xs) (hlen : xs.length ≤ 100000) (l : List Int) (k : Int) (h : dI xs = some l) (hk : (l.length : Int) = k) : Gh.bE E 118 [.ref 0 0, .p (.int .i64 k)] (aG [(0, .cells [.p (bT xs)] 0)]) A (fun y => y = .ok (.p (.list (l.map (P.int .i64)))) (aG [(0, .cells [.p (bT [])] 0)]) A) := by
 refine spX 16 Tryz.func118 rfl ?_
 intro C hN hL
 simp only [Gh.num, List.map_cons, List.map_nil, Nat.reduceAdd]
 repeat apply aA
 apply aB
 refine v0 ?_
 apply aC
 refine cl [0, 1] ?_
 repeat apply aA
 apply aB
 iterate 3 refine v0 ?_
 refine oc0 [(0, 0)] [] [0, 0] none (spec := aGx xs l hs hlen h) (hent := aFC) ?_
 refine v0 ?_
 apply aC
 refine cl [0, 1, 5] ?_
 repeat apply aA
 apply aB
 iterate 4 refine v0 ?_
 refine rb 13 true (h := by (first | rfl | exact decide_eq_true hk | (simp [hk]; done) | simp)) ?_
 refine pc0 (spec := bG _) (hent := bX) ?_
 apply aC
 refine cl [0, 5] ?_
 repeat apply aA
 apply aB
 iterate 2 refine v0 ?_
 apply aC
 repeat apply aA
 refine aL ?_
 repeat (first | refine aH ?_ | refine aF ?_ | refine aD ?_)
 refine aM ?_
 refine fh [0] ?_
 rfl
theorem aHK (xs : List Str) (hs : cE xs) (hlen : xs.length ≤ 100000) (k : Int) (h : dI xs = none) : Gh.bE E 118 [.ref 0 0, .p (.int .i64 k)] (aG [(0, .cells [.p (bT xs)] 0)]) A (fun y => y = .panic (.iface 218 (.agg [.int .i64 8])) (aG [(0, .cells [.p (bT (uU xs))] 0)]) A) := by
 refine spX 16 Tryz.func118 rfl ?_
 intro C hN hL
 simp only [Gh.num, List.map_cons, List.map_nil, Nat.reduceAdd]
 repeat apply aA
 apply aB
 refine v0 ?_
 apply aC
 refine cl [0, 1] ?_
 repeat apply aA
 apply aB
 iterate 3 refine v0 ?_
 refine op0 [(0, 0)] [] [0, 0] none (spec := aLk xs hs hlen h) (hent := aFC) ?_
 repeat (first | refine aO ?_ | refine aN ?_)
 refine fph [0] ?_
 rfl
theorem aHL (xs : List Str) (hs : cE xs) (hlen : xs.length ≤ 100000) (l : List Int) (k : Int) (h : dI xs = some l) (hk : (l.length : Int) ≠ k) : Gh.bE E 118 [.ref 0 0, .p (.int .i64 k)] (aG [(0, .cells [.p (bT xs)] 0)]) A (fun y => y = .panic (.iface 218 (.agg [.int .i64 8])) (aG [(0, .cells [.p (bT [])] 0)]) A) := by
 refine spX 16 Tryz.func118 rfl ?_
 intro C hN hL
 simp only [Gh.num, List.map_cons, List.map_nil, Nat.reduceAdd]
 repeat apply aA
 apply aB
 refine v0 ?_
 apply aC
 refine cl [0, 1] ?_
 repeat apply aA
 apply aB
 iterate 3 refine v0 ?_
 refine oc0 [(0, 0)] [] [0, 0] none (spec := aGx xs l hs hlen h) (hent := aFC) ?_
 refine v0 ?_
 apply aC
 refine cl [0, 1, 5] ?_
 repeat apply aA
 apply aB
 iterate 4 refine v0 ?_
 refine rb 13 false (h := by (first | rfl | exact decide_eq_false hk | (simp [hk]; done) | simp)) ?_
 refine pp0 (spec := dE _) (hent := bX) ?_
 repeat (first | refine aO ?_ | refine aN ?_)
 refine fph [0] ?_
 rfl
def aEv (xs : List Str) : List Str := match dI xs with
 | none => uU xs
 | some _ => []
theorem aBn (xs : List Str) (hs : cE xs) (hlen : xs.length ≤ 100000) (k : Int) (h : ∀ l, dI xs = some l → (l.length : Int) ≠ k) : Gh.bE E 118 [.ref 0 0, .p (.int .i64 k)] (aG [(0, .cells [.p (bT xs)] 0)]) A (fun y => y = .panic (.iface 218 (.agg [.int .i64 8])) (aG [(0, .cells [.p (bT (aEv xs))] 0)]) A) := by
 unfold aEv
 cases e : dI xs with
 | none => exact aHK xs hs hlen k e
 | some l => exact aHL xs hs hlen l k e (h l e)
theorem aJY : aJ Tryz.prog 121 := aJ.mk Tryz.func121 (by kernel_rfl) rfl
theorem aHM (xs : List Str) (hs : cE xs) (hlen : xs.length ≤ 100000) (a b d : Int) (h : dI xs = some [a, b, d]) : Gh.bE E 121 [.ref 0 0, .p (.ptr [.fn (.func 118) [] []])] (aG [(0, .cells [.p (bT xs)] 0)]) A (fun y => y = .ok (.p (.iface 208 (.agg [.int .i64 a, .int .i64 b, .int .i64 d]))) (aG [(0, .cells [.p (bT [])] 0)]) A) := by
 refine spX 19 Tryz.func121 rfl ?_
 intro C hN hL
 simp only [Gh.num, List.map_cons, List.map_nil, Nat.reduceAdd]
 repeat apply aA
 apply aB
 refine v0 ?_
 apply aC
 refine cl [0, 1] ?_
 repeat apply aA
 refine pr0 1 ?_
 apply aB
 iterate 2 refine v0 ?_
 refine oc0 [(0, 0)] [] [0, 0] none (spec := aBm xs hs hlen [a, b, d] 3 h (by simp)) (hent := yN) ?_
 refine v0 ?_
 apply aC
 refine cl [0, 4] ?_
 repeat apply aA
 refine rd ?_
 refine d0 0 ?_
 refine d1 1 (hc := aHJ.h {}) ?_
 refine d0 2 ?_
 refine d0 3 ?_
 refine d1 4 (hc := aHJ.h {}) ?_
 refine d0 5 ?_
 refine d0 6 ?_
 refine d1 7 (hc := aHJ.h {}) ?_
 refine d0 8 ?_
 refine d0 9 ?_
 refine d0 10 ?_
 refine d0 11 ?_
 refine dz 12 [0, 1, 3, 0, 8, 24, 0, 64, 192, 511, 1023, 2047] ?_
 refine de 12 ?_
 repeat apply aA
 refine aL ?_
 repeat (first | refine aH ?_ | refine aF ?_ | refine aD ?_)
 refine aM ?_
 refine fh [0] ?_
 rfl
theorem aHN (xs : List Str) (hs : cE xs) (hlen : xs.length ≤ 100000) (h : ∀ l, dI xs = some l → (l.length : Int) ≠ 3) : Gh.bE E 121 [.ref 0 0, .p (.ptr [.fn (.func 118) [] []])] (aG [(0, .cells [.p (bT xs)] 0)]) A (fun y => y = .panic (.iface 218 (.agg [.int .i64 8])) (aG [(0, .cells [.p (bT (aEv xs))] 0)]) A) := by
 refine spX 19 Tryz.func121 rfl ?_
 intro C hN hL
 simp only [Gh.num, List.map_cons, List.map_nil, Nat.reduceAdd]
 repeat apply aA
 apply aB
 refine v0 ?_
 apply aC
 refine cl [0, 1] ?_
 repeat apply aA
 refine pr0 1 ?_
 apply aB
 iterate 2 refine v0 ?_
 refine op0 [(0, 0)] [] [0, 0] none (spec := aBn xs hs hlen 3 h) (hent := yN) ?_
 repeat (first | refine aO ?_ | refine aN ?_)
 refine fph [0] ?_
 rfl
theorem aJZ : aJ Tryz.prog 123 := aJ.mk Tryz.func123 (by kernel_rfl) rfl
theorem aJ0 (xs : List Str) (hs : cE xs) (hlen : xs.length ≤ 100000) (a b d : Int) (h : dI xs = some [a, b, d]) : Gh.bE E 123 [.ref 0 0, .p (.ptr [.fn (.func 118) [] []])] (aG [(0, .cells [.p (bT xs)] 0)]) A (fun y => y = .ok (.p (.iface 211 (.agg [.int .i64 a, .int .i64 b, .int .i64 d]))) (aG [(0, .cells [.p (bT [])] 0)]) A) := by
 refine spX 19 Tryz.func123 rfl ?_
 intro C hN hL
 simp only [Gh.num, List.map_cons, List.map_nil, Nat.reduceAdd]
 repeat apply aA
 apply aB
 refine v0 ?_
 apply aC
 refine cl [0, 1] ?_
 repeat apply aA
 refine pr0 1 ?_
 apply aB
 iterate 2 refine v0 ?_
 refine oc0 [(0, 0)] [] [0, 0] none (spec := aBm xs hs hlen [a, b, d] 3 h (by simp)) (hent := yN) ?_
 refine v0 ?_
 apply aC
 refine cl [0, 4] ?_
 repeat apply aA
 refine rd ?_
 refine d0 0 ?_
 refine d1 1 (hc := aHJ.h {}) ?_
 refine d0 2 ?_
 refine d0 3 ?_
 refine d1 4 (hc := aHJ.h {}) ?_
 refine d0 5 ?_
 refine d0 6 ?_
 refine d1 7 (hc := aHJ.h {}) ?_
 refine d0 8 ?_
 refine d0 9 ?_
 refine d0 10 ?_
 refine d0 11 ?_
 refine dz 12 [0, 1, 3, 0, 8, 24, 0, 64, 192, 511, 1023, 2047] ?_
 refine de 12 ?_
 repeat apply aA
 refine aL ?_
 repeat (first | refine aH ?_ | refine aF ?_ | refine aD ?_)
 refine aM ?_
 refine fh [0] ?_
 rfl
theorem aJ1 (xs : List Str) (hs : cE xs) (hlen : xs.length ≤ 100000) (h : ∀ l, dI xs = some l → (l.length : Int) ≠ 3) : Gh.bE E 123 [.ref 0 0, .p (.ptr [.fn (.func 118) [] []])] (aG [(0, .cells [.p (bT xs)] 0)]) A (fun y => y = .panic (.iface 218 (.agg [.int .i64 8])) (aG [(0, .cells [.p (bT (aEv xs))] 0)]) A) := by
 refine spX 19 Tryz.func123 rfl ?_
 intro C hN hL
 simp only [Gh.num, List.map_cons, List.map_nil, Nat.reduceAdd]
 repeat apply aA
 apply aB
 refine v0 ?_
 apply aC
 refine cl [0, 1] ?_
 repeat apply aA
 refine pr0 1 ?_
 apply aB
 iterate 2 refine v0 ?_
 refine op0 [(0, 0)] [] [0, 0] none (spec := aBn xs hs hlen 3 h) (hent := yN) ?_
 repeat (first | refine aO ?_ | refine aN ?_)
 refine fph [0] ?_
 rfl
theorem aJ2 : aJ Tryz.prog 122 := aJ.mk Tryz.func122 (by kernel_rfl) rfl
theorem aHO (xs : List Str) (hs : cE xs) (hlen : xs.length ≤ 100000) (a b : Int) (h : dI xs = some [a, b]) : Gh.bE E 122 [.ref 0 0, .p (.ptr [.fn (.func 118) [] []])] (aG [(0, .cells [.p (bT xs)] 0)]) A (fun y => y = .ok (.p (.iface 210 (.agg [.int .i64 a, .int .i64 b]))) (aG [(0, .cells [.p (bT [])] 0)]) A) := by
 refine spX 10 Tryz.func122 rfl ?_
 intro C hN hL
 simp only [Gh.num, List.map_cons, List.map_nil, Nat.reduceAdd]
 repeat apply aA
 apply aB
 refine v0 ?_
 apply aC
 refine cl [0, 1] ?_
 repeat apply aA
 refine pr0 1 ?_
 apply aB
 iterate 2 refine v0 ?_
 refine oc0 [(0, 0)] [] [0, 0] none (spec := aBm xs hs hlen [a, b] 2 h (by simp)) (hent := yN) ?_
 refine sa0 ?_
 iterate 3 refine v0 ?_
 apply aC
 repeat apply aA
 refine aL ?_
 repeat (first | refine aH ?_ | refine aF ?_ | refine aD ?_)
 refine aM ?_
 refine fh [0] ?_
 rfl
theorem aHP (xs : List Str) (hs : cE xs) (hlen : xs.length ≤ 100000) (h : ∀ l, dI xs = some l → (l.length : Int) ≠ 2) : Gh.bE E 122 [.ref 0 0, .p (.ptr [.fn (.func 118) [] []])] (aG [(0, .cells [.p (bT xs)] 0)]) A (fun y => y = .panic (.iface 218 (.agg [.int .i64 8])) (aG [(0, .cells [.p (bT (aEv xs))] 0)]) A) := by
 refine spX 10 Tryz.func122 rfl ?_
 intro C hN hL
 simp only [Gh.num, List.map_cons, List.map_nil, Nat.reduceAdd]
 repeat apply aA
 apply aB
 refine v0 ?_
 apply aC
 refine cl [0, 1] ?_
 repeat apply aA
 refine pr0 1 ?_
 apply aB
 iterate 2 refine v0 ?_
 refine op0 [(0, 0)] [] [0, 0] none (spec := aBn xs hs hlen 2 h) (hent := yN) ?_
 repeat (first | refine aO ?_ | refine aN ?_)
 refine fph [0] ?_
 rfl
end
section
open Go.Gh
variable {E : Env Tryz.prog} {A : E.α}
structure aHQ (c : Prop) : Prop where
 h : c := by (first | exact True.intro | omega | (simp [P.size, List.length_map] <;> first | omega | (intro a _; rfl)) | (simp [P.size]; exact ⟨by omega, fun a _ => rfl⟩) | omega | (simp only [inI]; omega) | (simp [P.size, bR, bF, bN, bB, cR, good, G.one, P.one, P.cells] <;> first | omega | assumption | simp_all))
theorem aNv : aJ Tryz.prog 232 := aJ.mk Tryz.func232 (by kernel_rfl) rfl
theorem aFD (a b : P) (ha : a.one = true) (hb : b.one = true) (u v : Int) (l : List mV) : Gh.bE E 232 [.p (.agg [.int .i64 u, .int .i64 v]), .ref 0 0] (aG [(0, .cells [.p (a), .p (b), .own 1 (l).length] 0), (1, .arr 84 9 ((l).map eJ) false)]) A (fun y => y = .ok (.p (.tuple [])) (aG [(0, .cells [.p (.int .i64 u), .p (.int .i64 v), .own 1 (l).length] 0), (1, .arr 84 9 ((l).map eJ) false)]) A) := by
 refine spX 9 Tryz.func232 rfl ?_
 intro C hN hL
 simp only [Gh.num, List.map_cons, List.map_nil, Nat.reduceAdd]
 repeat apply aA
 apply aB
 refine n1 120 false (hc := aHQ.h {}) ?_
 apply aC
 refine cl [1, 2] ?_
 repeat apply aA
 apply aB
 iterate 5 refine v0 ?_
 refine s1 (hc := aHQ.h {}) ?_
 apply aC
 try refine bK ?_
 refine cW ?_
 refine fh0 [0, 1] ?_
 rfl
theorem aNw : aJ Tryz.prog 233 := aJ.mk Tryz.func233 (by kernel_rfl) rfl
theorem aHR (a b : P) (ha : a.one = true) (hb : b.one = true) (s : mV) (l : List mV) (hl : l.length ≤ 100000) : Gh.bE E 233 [.p (eJ s), .ref 0 0] (aG [(0, .cells [.p (a), .p (b), .own 1 (l).length] 0), (1, .arr 84 9 ((l).map eJ) false)]) A (fun y => y = .ok (.p (.tuple [])) (aG [(0, .cells [.p (a), .p (b), .own 1 (l ++ [s]).length] 0), (1, .arr 84 9 ((l ++ [s]).map eJ) false)]) A) := by
 refine spX 14 Tryz.func233 rfl ?_
 intro C hN hL
 simp only [Gh.num, List.map_cons, List.map_nil, Nat.reduceAdd]
 have hlm : (l.map eJ).length = l.length := List.length_map ..
 unfold eJ
 repeat apply aA
 apply aB
 refine n1 120 false (hc := aHQ.h {}) ?_
 apply aC
 refine cl [1, 2] ?_
 repeat apply aA
 refine rd ?_
 refine d0 0 ?_
 refine d0 1 ?_
 refine d0 2 ?_
 refine d0 3 ?_
 refine d0 4 ?_
 refine d0 5 ?_
 refine dn1 6 200 false (hc := aHQ.h {}) ?_
 refine dn1 7 210 false (hc := aHQ.h {}) ?_
 refine d0 8 ?_
 refine d0 9 ?_
 refine ds1 10 (hc := aHQ.h {}) ?_
 refine dz 11 [0, 0, 2, 6, 14, 0, 32, 126, 255, 511, 1023] ?_
 refine de 11 ?_
 try refine bK ?_
 refine cW ?_
 refine fh0 [0, 1] ?_
 simp [eJ]
end
section
open Go.Gh
variable {E : Env Tryz.prog} {A : E.α}
structure nI (c : Prop) : Prop where
 h : c := by (first | exact True.intro | omega | (simp [P.size, List.length_map] <;> first | omega | (intro a _; rfl) | (intro a b _; rfl) | (intro a b c _; rfl)) | (simp [P.size]; exact ⟨by omega, fun a _ => rfl⟩) | omega | (simp only [inI]; omega) | (simp [P.size, bR, bF, bN, bB, cR, good, G.one, P.one, P.cells] <;> first | omega | assumption | simp_all))
theorem aNx : aJ Tryz.prog 229 := aJ.mk Tryz.func229 (by kernel_rfl) rfl
theorem aHS (e1 e2 im u1 u2 : P) (g1 : e1.one = true) (g2 : e2.one = true) (g3 : im.one = true) (g4 : u1.one = true) (g5 : u2.one = true) (er : List (Int × Int)) (se : List Stg) (n u v a b : Int) : Gh.bE E 229 [.p (.agg [.int .i64 n, .int .i64 u, .int .i64 v, .int .i64 a, .int .i64 b]), .ref 0 0] (aG [(0, .cells [.own 1 (er).length, .p (e1), .p (e2), .p (im), .p (u1), .p (u2), .own 2 (se).length] 0), (1, .arr 24 2 ((er).map pSp) false), (2, .arr 81 3 ((se).map fS) false)]) A (fun y => y = .ok (.p (.tuple [])) (aG [(0, .cells [.own 1 (er).length, .p (.int .i64 a), .p (.int .i64 b), .p (.int .i64 n), .p (.int .i64 u), .p (.int .i64 v), .own 2 (se).length] 0), (1, .arr 24 2 ((er).map pSp) false), (2, .arr 81 3 ((se).map fS) false)]) A) := by
 refine spX 20 Tryz.func229 rfl ?_
 intro C hN hL
 simp only [Gh.num, List.map_cons, List.map_nil, Nat.reduceAdd]
 repeat apply aA
 apply aB
 refine n1 120 false (hc := nI.h {}) ?_
 apply aC
 refine cl [1, 2] ?_
 repeat apply aA
 refine rd ?_
 refine da0 0 ?_
 refine da0 1 ?_
 refine da0 2 ?_
 refine da0 3 ?_
 refine d0 4 ?_
 refine da0 5 ?_
 refine d0 6 ?_
 refine da0 7 ?_
 refine d0 8 ?_
 refine da0 9 ?_
 refine da0 10 ?_
 refine ds1 11 (hc := nI.h {}) ?_
 refine da0 12 ?_
 refine da0 13 ?_
 refine ds1 14 (hc := nI.h {}) ?_
 refine da0 15 ?_
 refine da0 16 ?_
 refine da0 17 ?_
 refine ds1 18 (hc := nI.h {}) ?_
 refine dz 19 [0, 0, 0, 0, 8, 0, 32, 0, 128, 25, 537, 1561, 3707, 7803, 15995, 32767, 65535, 131071, 262143] ?_
 refine de 19 ?_
 try refine bK ?_
 refine cW ?_
 refine fh0 [0, 1, 2] ?_
 rfl
theorem aNy : aJ Tryz.prog 230 := aJ.mk Tryz.func230 (by kernel_rfl) rfl
theorem aHT (e1 e2 im u1 u2 : P) (g1 : e1.one = true) (g2 : e2.one = true) (g3 : im.one = true) (g4 : u1.one = true) (g5 : u2.one = true) (er : List (Int × Int)) (se : List Stg) (e : Int × Int) (hl : er.length ≤ 100000) : Gh.bE E 230 [.p (.agg [.int .i64 e.1, .int .i64 e.2]), .ref 0 0] (aG [(0, .cells [.own 1 (er).length, .p (e1), .p (e2), .p (im), .p (u1), .p (u2), .own 2 (se).length] 0), (1, .arr 24 2 ((er).map pSp) false), (2, .arr 81 3 ((se).map fS) false)]) A (fun y => y = .ok (.p (.tuple [])) (aG [(0, .cells [.own 1 (er ++ [e]).length, .p (e1), .p (e2), .p (im), .p (u1), .p (u2), .own 2 (se).length] 0), (1, .arr 24 2 ((er ++ [e]).map pSp) false), (2, .arr 81 3 ((se).map fS) false)]) A) := by
 refine spX 17 Tryz.func230 rfl ?_
 intro C hN hL
 simp only [Gh.num, List.map_cons, List.map_nil, Nat.reduceAdd]
 have hlm : (er.map pSp).length = er.length := List.length_map ..
 repeat apply aA
 apply aB
 refine n1 120 false (hc := nI.h {}) ?_
 apply aC
 refine cl [1, 2] ?_
 repeat apply aA
 refine rd ?_
 refine da0 0 ?_
 refine da0 1 ?_
 refine da0 2 ?_
 refine da0 3 ?_
 refine da0 4 ?_
 refine d0 5 ?_
 refine da0 6 ?_
 refine d0 7 ?_
 refine dn1 8 220 false (hc := nI.h {}) ?_
 refine dn1 9 230 false (hc := nI.h {}) ?_
 refine da0 10 ?_
 refine da0 11 ?_
 refine da0 12 ?_
 refine ds1 13 (hc := nI.h {}) ?_
 refine dz 14 [0, 0, 2, 6, 14, 30, 0, 64, 192, 510, 1023, 2047, 4095, 8191] ?_
 refine de 14 ?_
 try refine bK ?_
 refine cW ?_
 refine fh0 [0, 1, 2] ?_
 simp [pSp]
theorem aJ3 : aJ Tryz.prog 231 := aJ.mk Tryz.func231 (by kernel_rfl) rfl
theorem aEw (e1 e2 im u1 u2 : P) (g1 : e1.one = true) (g2 : e2.one = true) (g3 : im.one = true) (g4 : u1.one = true) (g5 : u2.one = true) (er : List (Int × Int)) (se : List Stg) (s : Stg) (hl : se.length ≤ 100000) : Gh.bE E 231 [.p (fS s), .ref 0 0] (aG [(0, .cells [.own 1 (er).length, .p (e1), .p (e2), .p (im), .p (u1), .p (u2), .own 2 (se).length] 0), (1, .arr 24 2 ((er).map pSp) false), (2, .arr 81 3 ((se).map fS) false)]) A (fun y => y = .ok (.p (.tuple [])) (aG [(0, .cells [.own 1 (er).length, .p (e1), .p (e2), .p (im), .p (u1), .p (u2), .own 2 (se ++ [s]).length] 0), (1, .arr 24 2 ((er).map pSp) false), (2, .arr 81 3 ((se ++ [s]).map fS) false)]) A) := by
 refine spX 14 Tryz.func231 rfl ?_
 intro C hN hL
 simp only [Gh.num, List.map_cons, List.map_nil, Nat.reduceAdd]
 have hlm : (se.map fS).length = se.length := List.length_map ..
 unfold fS
 repeat apply aA
 apply aB
 refine n1 120 false (hc := nI.h {}) ?_
 apply aC
 refine cl [1, 2] ?_
 repeat apply aA
 refine rd ?_
 refine da0 0 ?_
 refine da0 1 ?_
 refine da0 2 ?_
 refine da0 3 ?_
 refine d0 4 ?_
 refine d0 5 ?_
 refine dn1 6 200 false (hc := nI.h {}) ?_
 refine dn1 7 210 false (hc := nI.h {}) ?_
 refine da0 8 ?_
 refine da0 9 ?_
 refine ds1 10 (hc := nI.h {}) ?_
 refine dz 11 [0, 0, 2, 6, 14, 0, 32, 126, 255, 511, 1023] ?_
 refine de 11 ?_
 try refine bK ?_
 refine cW ?_
 refine fh0 [0, 1, 2] ?_
 simp [fS]
theorem aNz : aJ Tryz.prog 234 := aJ.mk Tryz.func234 (by kernel_rfl) rfl
theorem aFE (pl ps ms : P) (g1 : pl.one = true) (g2 : ps.one = true) (g3 : ms.one = true) (kn : List (Int × Int)) (rs : List (Int × Int × Int)) (a b d : Int) : Gh.bE E 234 [.p (.agg [.int .i64 a, .int .i64 b, .int .i64 d]), .ref 0 0] (aG [(0, .cells [.p (pl), .p (ps), .own 1 (kn).length, .own 2 (rs).length, .p (ms)] 0), (1, .arr 126 2 ((kn).map pSp) false), (2, .arr 86 3 ((rs).map pRc) false)]) A (fun y => y = .ok (.p (.tuple [])) (aG [(0, .cells [.p (.int .i64 a), .p (.int .i64 b), .own 1 (kn).length, .own 2 (rs).length, .p (.int .i64 d)] 0), (1, .arr 126 2 ((kn).map pSp) false), (2, .arr 86 3 ((rs).map pRc) false)]) A) := by
 refine spX 19 Tryz.func234 rfl ?_
 intro C hN hL
 simp only [Gh.num, List.map_cons, List.map_nil, Nat.reduceAdd]
 repeat apply aA
 apply aB
 refine n1 120 false (hc := nI.h {}) ?_
 apply aC
 refine cl [1, 2] ?_
 repeat apply aA
 refine rd ?_
 refine da0 0 ?_
 refine da0 1 ?_
 refine da0 2 ?_
 refine da0 3 ?_
 refine d0 4 ?_
 refine da0 5 ?_
 refine d0 6 ?_
 refine da0 7 ?_
 refine d0 8 ?_
 refine da0 9 ?_
 refine da0 10 ?_
 refine ds1 11 (hc := nI.h {}) ?_
 refine da0 12 ?_
 refine da0 13 ?_
 refine ds1 14 (hc := nI.h {}) ?_
 refine da0 15 ?_
 refine da0 16 ?_
 refine ds1 17 (hc := nI.h {}) ?_
 refine dz 18 [0, 0, 0, 0, 8, 0, 32, 0, 128, 25, 537, 1561, 3707, 7803, 15995, 32767, 65535, 131071] ?_
 refine de 18 ?_
 try refine bK ?_
 refine cW ?_
 refine fh0 [0, 1, 2] ?_
 rfl
theorem aNA : aJ Tryz.prog 235 := aJ.mk Tryz.func235 (by kernel_rfl) rfl
theorem aFF (pl ps ms : P) (g1 : pl.one = true) (g2 : ps.one = true) (g3 : ms.one = true) (kn : List (Int × Int)) (rs : List (Int × Int × Int)) (e : Int × Int) (hl : kn.length ≤ 100000) : Gh.bE E 235 [.p (.agg [.int .i64 e.1, .int .i64 e.2]), .ref 0 0] (aG [(0, .cells [.p (pl), .p (ps), .own 1 (kn).length, .own 2 (rs).length, .p (ms)] 0), (1, .arr 126 2 ((kn).map pSp) false), (2, .arr 86 3 ((rs).map pRc) false)]) A (fun y => y = .ok (.p (.tuple [])) (aG [(0, .cells [.p (pl), .p (ps), .own 1 (kn ++ [e]).length, .own 2 (rs).length, .p (ms)] 0), (1, .arr 126 2 ((kn ++ [e]).map pSp) false), (2, .arr 86 3 ((rs).map pRc) false)]) A) := by
 refine spX 14 Tryz.func235 rfl ?_
 intro C hN hL
 simp only [Gh.num, List.map_cons, List.map_nil, Nat.reduceAdd]
 have hlm : (kn.map pSp).length = kn.length := List.length_map ..
 repeat apply aA
 apply aB
 refine n1 120 false (hc := nI.h {}) ?_
 apply aC
 refine cl [1, 2] ?_
 repeat apply aA
 refine rd ?_
 refine da0 0 ?_
 refine da0 1 ?_
 refine da0 2 ?_
 refine da0 3 ?_
 refine d0 4 ?_
 refine d0 5 ?_
 refine dn1 6 200 false (hc := nI.h {}) ?_
 refine dn1 7 210 false (hc := nI.h {}) ?_
 refine da0 8 ?_
 refine da0 9 ?_
 refine ds1 10 (hc := nI.h {}) ?_
 refine dz 11 [0, 0, 2, 6, 14, 0, 32, 126, 255, 511, 1023] ?_
 refine de 11 ?_
 try refine bK ?_
 refine cW ?_
 refine fh0 [0, 1, 2] ?_
 simp [pSp]
theorem aNB : aJ Tryz.prog 236 := aJ.mk Tryz.func236 (by kernel_rfl) rfl
theorem aHU (pl ps ms : P) (g1 : pl.one = true) (g2 : ps.one = true) (g3 : ms.one = true) (kn : List (Int × Int)) (rs : List (Int × Int × Int)) (e : Int × Int × Int) (hl : rs.length ≤ 100000) : Gh.bE E 236 [.p (.agg [.int .i64 e.1, .int .i64 e.2.1, .int .i64 e.2.2]), .ref 0 0] (aG [(0, .cells [.p (pl), .p (ps), .own 1 (kn).length, .own 2 (rs).length, .p (ms)] 0), (1, .arr 126 2 ((kn).map pSp) false), (2, .arr 86 3 ((rs).map pRc) false)]) A (fun y => y = .ok (.p (.tuple [])) (aG [(0, .cells [.p (pl), .p (ps), .own 1 (kn).length, .own 2 (rs ++ [e]).length, .p (ms)] 0), (1, .arr 126 2 ((kn).map pSp) false), (2, .arr 86 3 ((rs ++ [e]).map pRc) false)]) A) := by
 refine spX 14 Tryz.func236 rfl ?_
 intro C hN hL
 simp only [Gh.num, List.map_cons, List.map_nil, Nat.reduceAdd]
 have hlm : (rs.map pRc).length = rs.length := List.length_map ..
 repeat apply aA
 apply aB
 refine n1 120 false (hc := nI.h {}) ?_
 apply aC
 refine cl [1, 2] ?_
 repeat apply aA
 refine rd ?_
 refine da0 0 ?_
 refine da0 1 ?_
 refine da0 2 ?_
 refine da0 3 ?_
 refine d0 4 ?_
 refine d0 5 ?_
 refine dn1 6 200 false (hc := nI.h {}) ?_
 refine dn1 7 210 false (hc := nI.h {}) ?_
 refine da0 8 ?_
 refine da0 9 ?_
 refine ds1 10 (hc := nI.h {}) ?_
 refine dz 11 [0, 0, 2, 6, 14, 0, 32, 126, 255, 511, 1023] ?_
 refine de 11 ?_
 try refine bK ?_
 refine cW ?_
 refine fh0 [0, 1, 2] ?_
 simp [pRc]
end
end Go.Proofs.YtecmhhpccmaeiaaGreatDoor
