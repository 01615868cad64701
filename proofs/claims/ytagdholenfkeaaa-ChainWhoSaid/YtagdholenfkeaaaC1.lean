/- The statement ChainWho: the call returns true for every input, and its arguments read as before; no condition. -/
import Derived.Test.YtagdholenfkeaaaB3
set_option linter.unusedVariables false
set_option linter.unusedSimpArgs false
/- The document: small functions. -/
namespace Go.Proofs.Ytagdholenfkeaaa
open Go.Gh
set_option maxRecDepth 100000
set_option maxHeartbeats 4000000
structure kWa1 (c : Prop) : Prop where
  h : c := by (first | exact True.intro | (simp only [inI]; omega) | (simp [P.size, pr, pk, all_int, allOne_p, goods_p, allOne, goods, good, G.one, P.one, P.cells] <;> first | omega | assumption | simp_all))
theorem ent85 : Enters Try.prog 85 := Enters.mk Try.func85 (by kernel_rfl) rfl
theorem r_power (N : Nat) (hb : N ≤ 40) : PSpec Try.prog 85 [.int .i64 N] (.ok (.int .i64 (2 ^ N : Nat))) := by
  refine pspec_of Try.func85 (rfl : Try.f85.body = some _) rfl ?_
  intro E A C hN hL
  replace hN : C.N = 13 := hN
  simp only [Gh.num, List.map_cons, List.map_nil, Nat.reduceAdd]
  repeat refine gwp_seq ?_
  refine gwp_region ?_
  refine v0 (k := ?_)
  refine nil0 ?_
  refine cl [0] (k := ?_)
  repeat refine gwp_seq ?_
  refine gwp_region ?_
  refine v0 (k := ?_)
  refine nil0 ?_
  refine cl [0, 3] (k := ?_)
  repeat refine gwp_seq ?_
  refine gwp_region ?_
  refine v0 (k := ?_)
  refine nil0 ?_
  refine cl [0, 3, 4] (k := ?_)
  repeat refine gwp_seq ?_
  refine gwp_block ?_
  repeat refine gwp_seq ?_
  refine gc_loop (fun mz σ => ∃ k : Nat, (k ≤ N) ∧ mz = N - k ∧ σ = (sg [(0, .p (.int .i64 (N : Nat))), (3, .p (.int .i64 (2 ^ k : Nat))), (4, .p (.int .i64 (k : Nat)))] [] A [] : Sg E)) ?_ (fun mz σ hI => ?_)
  · refine lbeg [0, 3, 4] (hV := ?_)
    exact ⟨_, 0, by omega, rfl, rfl⟩
  obtain ⟨k, hk, hn, rfl⟩ := hI
  have hpos := Nat.two_pow_pos k
  have h62 : 2 ^ k ≤ 2 ^ 40 := Nat.pow_le_pow_right (by omega) (by omega)
  repeat refine gwp_seq ?_
  refine gwp_region ?_
  refine v0 (k := ?_)
  refine v0 (k := ?_)
  refine v0 (k := ?_)
  refine nil0 ?_
  repeat refine gwp_seq ?_
  refine cB (k1 := fun hb1 => ?_) (k0 := fun hb1 => ?_)
  · replace hb1 := hB.h {} hb1
    repeat refine gwp_seq ?_
    refine gwp_skip ?_
    refine cl [0, 3, 4] (k := ?_)
    repeat refine gwp_seq ?_
    refine gwp_block ?_
    repeat refine gwp_seq ?_
    refine gwp_region ?_
    refine v0 (k := ?_)
    refine v1 (hc := by (first | exact True.intro | (simp only [inI]; omega) | (simp [P.size] <;> omega))) (k := ?_)
    refine v0 (k := ?_)
    refine nil0 ?_
    refine cl [0, 3, 4] (k := ?_)
    repeat refine gwp_seq ?_
    refine gwp_region ?_
    refine v0 (k := ?_)
    refine v1 (hc := by (first | exact True.intro | (simp only [inI]; omega) | (simp [P.size] <;> omega))) (k := ?_)
    refine v0 (k := ?_)
    refine nil0 ?_
    refine lend [0, 3, 4] (h := ?_) (hV := ?_) (n' := N - (k + 1))
    · omega
    exact ⟨k + 1, by omega, rfl, sgE (by simp [Nat.pow_succ, Int.mul_comm]) rfl⟩
  · replace hb1 := hB.h {} hb1
    repeat refine gwp_seq ?_
    refine gwp_exit ?_
    repeat (first | refine gthen_exit ?_ | refine gnoGoto_exit ?_ | refine gblock_here ?_ | refine gblock_out rfl ?_)
    refine cl [3] (k := ?_)
    repeat refine gwp_seq ?_
    refine gwp_region ?_
    refine v0 (k := ?_)
    refine v0 (k := ?_)
    refine nil0 ?_
    repeat refine gwp_seq ?_
    refine gwp_ret ?_
    repeat (first | refine gthen_ret ?_ | refine gblock_ret ?_ | refine gnoGoto_ret ?_)
    refine fin_ret ?_
    refine fp (hR := ?_)
    have : k = N := by omega
    subst this
    rfl
theorem ent66 : Enters Try.prog 66 := Enters.mk Try.func66 (by kernel_rfl) rfl
theorem r_every (c : Ch) (hv : c.valid = true) : PSpec Try.prog 66 [.agg [.int .i64 c.pl, .int .i64 c.ps, .list (c.kn.map pk), .list (c.rs.map pr), .int .i64 c.ms]] (.ok (.int .i64 (allS c.rs.length : Nat))) := by
  refine pspec_of Try.func66 (rfl : Try.f66.body = some _) rfl ?_
  intro E A C hN hL
  replace hN : C.N = 8 := hN
  simp only [Gh.num, List.map_cons, List.map_nil, Nat.reduceAdd]
  have hn := valid_num hv
  have hpos := Nat.two_pow_pos c.rs.length
  have h62 : 2 ^ c.rs.length ≤ 2 ^ 12 := Nat.pow_le_pow_right (by omega) (by omega)
  repeat refine gwp_seq ?_
  refine gwp_region ?_
  refine n1 110 false (hc := kWa1.h {}) (k := ?_)
  refine v0 (k := ?_)
  refine nil0 ?_
  refine cl [1] (k := ?_)
  repeat refine gwp_seq ?_
  refine gwp_region ?_
  refine v0 (k := ?_)
  refine v0 (k := ?_)
  refine v0 (k := ?_)
  refine pc0 (spec := r_power c.rs.length (by omega)) (hent := ent85) (k := ?_)
  refine v1 (hc := kWa1.h {}) (k := ?_)
  refine v0 (k := ?_)
  refine nil0 ?_
  repeat refine gwp_seq ?_
  refine gwp_ret ?_
  repeat (first | refine gthen_ret ?_ | refine gblock_ret ?_ | refine gnoGoto_ret ?_)
  refine fin_ret ?_
  refine fp (hR := ?_)
  rw [← allS_i]
  rfl
theorem ent51 : Enters Try.prog 51 := Enters.mk Try.func51 (by kernel_rfl) rfl
theorem r_holder (c : Ch) (p : Int) (n : Nat) (hn : n ≤ c.rs.length) (hl : c.rs.length ≤ 12) : PSpec Try.prog 51 [.agg [.int .i64 c.pl, .int .i64 c.ps, .list (c.kn.map pk), .list (c.rs.map pr), .int .i64 c.ms], .int .i64 p, .int .i64 (n : Nat)] (.ok (.int .i64 (holN p c.rs n))) := by
  refine pspec_of Try.func51 (rfl : Try.f51.body = some _) rfl ?_
  intro E A C hN hL
  replace hN : C.N = 29 := hN
  simp only [Gh.num, List.map_cons, List.map_nil, Nat.reduceAdd]
  have hpk : ∀ k : Kw, pk k = P.agg [.int .i64 k.a, .int .i64 k.b] := fun _ => rfl
  have hpr : ∀ r : Rc, pr r = P.agg [.int .i64 r.p, .int .i64 r.f, .int .i64 r.t] := fun _ => rfl
  repeat refine gwp_seq ?_
  refine gwp_region ?_
  refine n1 130 false (hc := kWa1.h {}) (k := ?_)
  refine v0 (k := ?_)
  refine nil0 ?_
  refine cl [1, 2, 3] (k := ?_)
  repeat refine gwp_seq ?_
  refine gwp_region ?_
  refine v0 (k := ?_)
  refine nil0 ?_
  refine cl [1, 2, 3, 7] (k := ?_)
  repeat refine gwp_seq ?_
  refine gwp_region ?_
  refine v0 (k := ?_)
  refine nil0 ?_
  refine cl [1, 2, 3, 7, 8] (k := ?_)
  repeat refine gwp_seq ?_
  refine gwp_block ?_
  repeat refine gwp_seq ?_
  refine gc_loop (fun mz σ => ∃ k : Nat, (k ≤ n) ∧ mz = n - k ∧ σ = (sg [(1, .p (.int .i64 p)), (2, .p (.int .i64 (n : Nat))), (3, .ref 130 0), (7, .p (.int .i64 (holN p c.rs k))), (8, .p (.int .i64 (k : Nat)))] [(130, .cells [.p (.int .i64 c.pl), .p (.int .i64 c.ps), .p (.list (c.kn.map pk)), .p (.list (c.rs.map pr)), .p (.int .i64 c.ms)] 0)] A [] : Sg E)) ?_ (fun mz σ hI => ?_)
  · refine lbeg [1, 2, 3, 7, 8] (hV := ?_)
    exact ⟨_, 0, by omega, rfl, rfl⟩
  obtain ⟨k, hk, hnn, rfl⟩ := hI
  repeat refine gwp_seq ?_
  refine gwp_region ?_
  refine v0 (k := ?_)
  refine v0 (k := ?_)
  refine v0 (k := ?_)
  refine nil0 ?_
  repeat refine gwp_seq ?_
  refine cB (k1 := fun hb1 => ?_) (k0 := fun hb1 => ?_)
  · replace hb1 := hB.h {} hb1
    try rw [eqI] at hb1
    repeat refine gwp_seq ?_
    refine gwp_skip ?_
    refine cl [1, 2, 3, 7, 8] (k := ?_)
    repeat refine gwp_seq ?_
    refine gwp_block ?_
    repeat refine gwp_seq ?_
    obtain ⟨r, hr⟩ := getE (l := c.rs) (k := k) (by omega)
    have hkl := (List.getElem?_eq_some_iff.1 hr).1
    refine gwp_region ?_
    refine v0 (k := ?_)
    refine v0 (k := ?_)
    refine v0 (k := ?_)
    refine v1 (hc := kWa1.h {}) (k := ?_)
    refine v0 (k := ?_)
    refine v0 (k := ?_)
    refine v0 (k := ?_)
    refine v0 (k := ?_)
    refine nil0 ?_
    repeat refine gwp_seq ?_
    refine cB (k1 := fun hb2 => ?_) (k0 := fun hb2 => ?_)
    · replace hb2 := hB.h {} hb2
      try rw [eqI] at hb2
      repeat refine gwp_seq ?_
      refine gwp_region ?_
      refine v0 (k := ?_)
      refine v0 (k := ?_)
      refine v0 (k := ?_)
      refine v1 (hc := kWa1.h {}) (k := ?_)
      refine v0 (k := ?_)
      refine v0 (k := ?_)
      refine v0 (k := ?_)
      refine nil0 ?_
      refine cl [1, 2, 3, 7, 8] (k := ?_)
      repeat refine gwp_seq ?_
      refine gwp_region ?_
      refine v0 (k := ?_)
      refine v1 (hc := kWa1.h {}) (k := ?_)
      refine v0 (k := ?_)
      refine nil0 ?_
      refine lend [1, 2, 3, 7, 8] (h := ?_) (hV := ?_) (n' := n - (k + 1))
      · omega
      first
      | exact ⟨k + 1, by omega, rfl, sgE (by rw [holN, hr]; simp only []; rw [if_pos (by omega)]; rfl) rfl⟩
      | exact ⟨k + 1, by omega, rfl, sgE (by rw [holN, hr]; simp only []; rw [if_neg (by omega)]; rfl) rfl⟩
    · replace hb2 := hB.h {} hb2
      try rw [eqI] at hb2
      repeat refine gwp_seq ?_
      refine gwp_skip ?_
      refine cl [1, 2, 3, 7, 8] (k := ?_)
      repeat refine gwp_seq ?_
      refine gwp_region ?_
      refine v0 (k := ?_)
      refine v1 (hc := kWa1.h {}) (k := ?_)
      refine v0 (k := ?_)
      refine nil0 ?_
      refine lend [1, 2, 3, 7, 8] (h := ?_) (hV := ?_) (n' := n - (k + 1))
      · omega
      first
      | exact ⟨k + 1, by omega, rfl, sgE (by rw [holN, hr]; simp only []; rw [if_pos (by omega)]; rfl) rfl⟩
      | exact ⟨k + 1, by omega, rfl, sgE (by rw [holN, hr]; simp only []; rw [if_neg (by omega)]; rfl) rfl⟩
  · replace hb1 := hB.h {} hb1
    try rw [eqI] at hb1
    repeat refine gwp_seq ?_
    refine gwp_exit ?_
    repeat (first | refine gthen_exit ?_ | refine gnoGoto_exit ?_ | refine gblock_here ?_ | refine gblock_out rfl ?_)
    refine cl [7] (k := ?_)
    repeat refine gwp_seq ?_
    refine gwp_region ?_
    refine v0 (k := ?_)
    refine v0 (k := ?_)
    refine nil0 ?_
    repeat refine gwp_seq ?_
    refine gwp_ret ?_
    repeat (first | refine gthen_ret ?_ | refine gblock_ret ?_ | refine gnoGoto_ret ?_)
    refine fin_ret ?_
    refine fp (hR := ?_)
    obtain rfl : k = n := by omega
    rfl
end Go.Proofs.Ytagdholenfkeaaa

/- The document's states: for each of eight persons two numbers. -/
namespace Go.Proofs.Ytagdholenfkeaaa
open Go.Gh
def stt (g : Mx) : List P := (List.range 16).map fun q => .int .i64 (g (q / 2) (q % 2))
theorem stt_len (g : Mx) : (stt g).length = 16 := by simp [stt]
theorem stt_at (g : Mx) {q : Nat} (h : q < 16) : (stt g)[q]? = some (.int .i64 (g (q / 2) (q % 2))) := by
  rw [stt, List.getElem?_map, List.getElem?_range h, Option.map_some]
theorem stt_get (g : Mx) {x y : Nat} (hx : x < 8) (hy : y < 2) : (stt g)[x * 2 + y]? = some (.int .i64 (g x y)) := by
  rw [stt_at g (by omega), show (x * 2 + y) / 2 = x by omega, show (x * 2 + y) % 2 = y by omega]
theorem stt_congr {f g : Mx} (h : ∀ x, x < 8 → ∀ y, y < 2 → f x y = g x y) : stt f = stt g := by
  unfold stt
  apply List.map_congr_left
  intro q hq
  have := List.mem_range.1 hq
  rw [h (q / 2) (by omega) (q % 2) (by omega)]
theorem stt_set (g : Mx) {x y : Nat} (hx : x < 8) (hy : y < 2) (v : Int) : (stt g).set (x * 2 + y) (.int .i64 v) = stt (fun i k => if i = x ∧ k = y then v else g i k) := by
  apply List.ext_getElem?
  intro q
  by_cases hq : q < 16
  · rw [stt_at _ hq]
    by_cases e : x * 2 + y = q
    · subst e
      rw [List.getElem?_set_self (by rw [stt_len]; omega), show (x * 2 + y) / 2 = x by omega, show (x * 2 + y) % 2 = y by omega]
      simp
    · rw [List.getElem?_set_ne e, stt_at g hq, if_neg (by omega)]
  · rw [List.getElem?_eq_none (by rw [List.length_set, stt_len]; omega), List.getElem?_eq_none (by rw [stt_len]; omega)]
theorem stt_pair (g : Mx) {x : Nat} (hx : x < 8) (u v : Int) : (stt g).take (x * 2) ++ [.int .i64 u, .int .i64 v] ++ (stt g).drop (x * 2 + 2) = stt (fun i k => if i = x then (if k = 0 then u else v) else g i k) := by
  apply List.ext_getElem?
  intro q
  have hl : ((stt g).take (x * 2)).length = x * 2 := by rw [List.length_take, stt_len]; omega
  have hl2 : ((stt g).take (x * 2) ++ [P.int .i64 u, .int .i64 v]).length = x * 2 + 2 := by rw [List.length_append, hl]; rfl
  by_cases hq : q < 16
  · rw [stt_at _ hq]
    by_cases h1 : q < x * 2
    · rw [List.getElem?_append_left (by omega), List.getElem?_append_left (by omega), List.getElem?_take_of_lt h1, stt_at g hq, if_neg (by omega)]
    · by_cases h2 : q < x * 2 + 2
      · rw [List.getElem?_append_left (by omega), List.getElem?_append_right (by omega), hl, show q / 2 = x by omega, if_pos rfl]
        by_cases h3 : q = x * 2
        · rw [show q - x * 2 = 0 by omega, if_pos (by omega)]; rfl
        · rw [show q - x * 2 = 1 by omega, if_neg (by omega)]; rfl
      · rw [List.getElem?_append_right (by omega), hl2, List.getElem?_drop, show x * 2 + 2 + (q - (x * 2 + 2)) = q by omega, stt_at g hq, if_neg (by omega)]
  · rw [List.getElem?_eq_none (by rw [List.length_append, hl2, List.length_drop, stt_len]; omega), List.getElem?_eq_none (by rw [stt_len]; omega)]
end Go.Proofs.Ytagdholenfkeaaa

/- The document: states. -/
namespace Go.Proofs.Ytagdholenfkeaaa
open Go.Gh
set_option maxRecDepth 100000
set_option maxHeartbeats 4000000
structure kWd1 (c : Prop) : Prop where
  h : c := by (first | exact True.intro | omega | (simp only [List.length_map, stt_len, G.one, P.one, good, inI, Nat.add_zero, Nat.mul_one]; omega) | (simp [stt_len, G.one, P.one, good, goods, inI, allOne]; done) | (simp [stt_len, G.one, P.one, good, goods, inI, allOne]; omega) | (simp [stt_len, allOne_p, goods_p, G.one, P.one, good, goods, inI, allOne, stt]; done))
theorem pairG (g : Mx) {x : Nat} (hx : x < 8) (u v : Int) : List.take (x * 2) (List.map G.p (stt g)) ++ [G.p (.int .i64 u), G.p (.int .i64 v)] ++ List.drop (x * 2 + 2) (List.map G.p (stt g)) = (stt (fun i k => if i = x then (if k = 0 then u else v) else g i k)).map G.p := by
  rw [← stt_pair g hx u v]; simp only [List.map_append, List.map_take, List.map_drop, List.map_cons, List.map_nil]
theorem takeS (g : Mx) : List.take 16 (List.map G.p (stt g)) = List.map G.p (stt g) := List.take_of_length_le (by simp [stt_len])
theorem dropS (g : Mx) : List.drop 16 (List.map G.p (stt g)) = [] := List.drop_of_length_le (by simp [stt_len])
theorem oneS (g : Mx) : allOne (List.map G.p (stt g)) = true := by
  rw [allOne_p, List.all_eq_true]; intro x hx; obtain ⟨_, _, rfl⟩ := List.mem_map.1 hx; rfl
theorem nobody_step (k : Nat) : stt (fun i j => if i = k then (if j = 0 then 1000 else 1000) else if i < k then 1000 else 0) = stt (fun x _ => if x < k + 1 then 1000 else 0) := stt_congr fun x _ y _ => by
  by_cases h : x = k
  · subst h; simp
  · rw [if_neg h]; by_cases h2 : x < k
    · rw [if_pos h2, if_pos (by omega)]
    · rw [if_neg h2, if_neg (by omega)]
theorem ent113 : Enters Try.prog 113 := Enters.mk Try.func113 (by kernel_rfl) rfl
theorem r_nobody  : PSpec Try.prog 113 [] (.ok (.agg (stt fun _ _ => 1000))) := by
  refine pspec_of Try.func113 (rfl : Try.f113.body = some _) rfl ?_
  intro E A C hN hL
  replace hN : C.N = 11 := hN
  simp only [Gh.num, List.map_cons, List.map_nil, Nat.reduceAdd]
  repeat refine gwp_seq ?_
  refine gwp_region ?_
  refine n1 100 false (hc := kWd1.h {}) (k := ?_)
  refine nil0 ?_
  refine cl [0] (k := ?_)
  repeat refine gwp_seq ?_
  refine gwp_region ?_
  refine n1 110 false (hc := kWd1.h {}) (k := ?_)
  refine nil0 ?_
  refine cl [0, 1] (k := ?_)
  repeat refine gwp_seq ?_
  rw [show ([.p (.int .i64 0), .p (.int .i64 0), .p (.int .i64 0), .p (.int .i64 0), .p (.int .i64 0), .p (.int .i64 0), .p (.int .i64 0), .p (.int .i64 0), .p (.int .i64 0), .p (.int .i64 0), .p (.int .i64 0), .p (.int .i64 0), .p (.int .i64 0), .p (.int .i64 0), .p (.int .i64 0), .p (.int .i64 0)] : List G) = ((stt (fun _ _ => 0)).map G.p) from rfl]
  refine gwp_region ?_
  refine v0 (k := ?_)
  refine nil0 ?_
  refine cl [0, 1, 2] (k := ?_)
  repeat refine gwp_seq ?_
  refine gwp_block ?_
  repeat refine gwp_seq ?_
  refine gc_loop (fun mz σ => ∃ k : Nat, (k ≤ 8) ∧ mz = 8 - k ∧ σ = (sg [(0, .ref 100 0), (1, .ref 110 0), (2, .p (.int .i64 (k : Nat)))] [(100, .cells ((stt (fun _ _ => 0)).map G.p) 0), (110, .cells ((stt (fun x _ => if x < k then 1000 else 0)).map G.p) 0)] A [] : Sg E)) ?_ (fun mz σ hI => ?_)
  · refine lbeg [0, 1, 2] (hV := ?_)
    exact ⟨_, 0, by omega, rfl, rfl⟩
  obtain ⟨k, hk, hnn, rfl⟩ := hI
  repeat refine gwp_seq ?_
  refine gwp_region ?_
  refine v0 (k := ?_)
  refine v0 (k := ?_)
  refine nil0 ?_
  repeat refine gwp_seq ?_
  refine cB (k1 := fun hb1 => ?_) (k0 := fun hb1 => ?_)
  · replace hb1 := hB.h {} hb1
    repeat refine gwp_seq ?_
    refine gwp_skip ?_
    refine cl [0, 1, 2] (k := ?_)
    repeat refine gwp_seq ?_
    refine gwp_block ?_
    repeat refine gwp_seq ?_
    have hsp := pairG (fun x _ => if x < k then 1000 else 0) (x := k) (by omega) 1000 1000
    simp only [nobody_step] at hsp
    refine gwp_region ?_
    refine v0 (k := ?_)
    refine v0 (k := ?_)
    refine v1 (hc := kWd1.h {}) (k := ?_)
    refine s1 (hc := kWd1.h {}) (k := ?_)
    refine nil0 ?_
    refine cl [0, 1, 2] (k := ?_)
    repeat refine gwp_seq ?_
    refine gwp_region ?_
    refine v0 (k := ?_)
    refine v1 (hc := kWd1.h {}) (k := ?_)
    refine v0 (k := ?_)
    refine nil0 ?_
    refine lend [0, 1, 2] (h := ?_) (hV := ?_) (n' := 8 - (k + 1))
    · omega
    exact ⟨k + 1, by omega, rfl, sgE rfl rfl⟩
  · replace hb1 := hB.h {} hb1
    repeat refine gwp_seq ?_
    refine gwp_exit ?_
    repeat (first | refine gthen_exit ?_ | refine gnoGoto_exit ?_ | refine gblock_here ?_ | refine gblock_out rfl ?_)
    refine cl [0, 1] (k := ?_)
    repeat refine gwp_seq ?_
    obtain rfl : k = 8 := by omega
    have htk := takeS
    have hdr := dropS
    have hone := oneS
    have hlen := stt_len
    refine gwp_region ?_
    refine v0 (k := ?_)
    refine s1 (hc := kWd1.h {}) (k := ?_)
    refine nil0 ?_
    repeat refine gwp_seq ?_
    refine gwp_ret ?_
    repeat (first | refine gthen_ret ?_ | refine gblock_ret ?_ | refine gnoGoto_ret ?_)
    refine fin_ret ?_
    refine fp (g := .p (.agg (stt (fun x _ => if x < 8 then 1000 else 0)))) (v := .agg (stt (fun x _ => if x < 8 then 1000 else 0))) (d := 0 + 16 ≤ 16 ∧ True) (d' := True) (hg := by (simp only [gresult, gresL, gres1, tup_one, mkFr_cons, mkFr_nil, mkHp_cons, mkHp_nil, Nat.reduceEqDiff, reduceIte, ti_108, gload, isAggD, mkAgg, List.drop_zero, takeS, allP_p, List.length_map, stt_len] <;> rfl)) (hp := by simp only [toP]) (hR := ?_)
    rw [show stt (fun x _ => if x < 8 then 1000 else 0) = stt (fun _ _ => 1000) from stt_congr (fun x hx y _ => if_pos hx)]
    rfl
end Go.Proofs.Ytagdholenfkeaaa

/- Which chains are valid, as the document asks for it. -/
namespace Go.Proofs.Ytagdholenfkeaaa
open Go.Gh
def inW (x m : Int) : Bool := decide (0 ≤ x) && decide (x ≤ IntKind.i64.wrap (m - 1))
theorem inW_eq {m : Int} (h : 1 ≤ m ∧ m ≤ 8) (x : Int) : inW x m = inQ x m := by
  rw [inW, inQ, IntWalk.i64_in (m - 1) (by omega)]
def badKW (ps : Int) (k : Kw) : Bool := !inW k.a ps || !inW k.b ps || decide (k.a = k.b)
def badRW (pl ps : Int) (r : Rc) : Bool := !inW r.p pl || !inW r.f ps || !inW r.t ps || decide (r.f = r.t)
theorem badKW_eq {ps : Int} (h : 1 ≤ ps ∧ ps ≤ 8) (k : Kw) : badKW ps k = badK ps k := by simp only [badKW, badK, inW_eq h, inQ]
theorem badRW_eq {pl ps : Int} (h : 1 ≤ ps ∧ ps ≤ 8) (g : 1 ≤ pl ∧ pl ≤ 4) (r : Rc) : badRW pl ps r = badR pl ps r := by simp only [badRW, badR, inW_eq h, inW_eq (m := pl) (by omega), inQ]
theorem head_false {c : Ch} (h : ¬ ((1 ≤ c.pl ∧ c.pl ≤ 4) ∧ (1 ≤ c.ps ∧ c.ps ≤ 8))) : c.valid = false := by
  have : c.head = false := by
    cases e : c.head with
    | false => rfl
    | true => simp only [Ch.head, Bool.and_eq_true, decide_eq_true_eq] at e; exact absurd ⟨e.1.1, e.1.2⟩ h
  simp [Ch.valid, this]
theorem valid_badK {c : Ch} {k : Nat} {x : Kw} (hx : c.kn[k]? = some x) (hb : badKW c.ps x = true) : c.valid = false := by
  by_cases h : (1 ≤ c.pl ∧ c.pl ≤ 4) ∧ (1 ≤ c.ps ∧ c.ps ≤ 8)
  · rw [badKW_eq h.2] at hb
    have : c.kn.any (badK c.ps) = true := List.any_eq_true.2 ⟨x, List.mem_of_getElem? hx, hb⟩
    simp [Ch.valid, this]
  · exact head_false h
theorem valid_badR {c : Ch} {k : Nat} {x : Rc} (hx : c.rs[k]? = some x) (hb : badRW c.pl c.ps x = true) : c.valid = false := by
  by_cases h : (1 ≤ c.pl ∧ c.pl ≤ 4) ∧ (1 ≤ c.ps ∧ c.ps ≤ 8)
  · rw [badRW_eq h.2 h.1] at hb
    have : c.rs.any (badR c.pl c.ps) = true := List.any_eq_true.2 ⟨x, List.mem_of_getElem? hx, hb⟩
    simp [Ch.valid, this]
  · exact head_false h
theorem valid_end {c : Ch} (h1 : c.kn.any (badKW c.ps) = false) (h2 : c.rs.any (badRW c.pl c.ps) = false) : c.valid = (((((decide (1 ≤ c.pl) && decide (c.pl ≤ 4)) && (decide (1 ≤ c.ps) && decide (c.ps ≤ 8))) && decide ((c.kn.length : Int) ≤ 28)) && decide ((c.rs.length : Int) ≤ 12)) && (decide (0 ≤ c.ms) && decide (c.ms ≤ 20))) := by
  by_cases h : (1 ≤ c.pl ∧ c.pl ≤ 4) ∧ (1 ≤ c.ps ∧ c.ps ≤ 8)
  · rw [show badKW c.ps = badK c.ps from funext fun k => badKW_eq h.2 k] at h1
    rw [show badRW c.pl c.ps = badR c.pl c.ps from funext fun r => badRW_eq h.2 h.1 r] at h2
    simp only [Ch.valid, Ch.head, h1, h2, Bool.not_false, Bool.and_true]
    cases decide (0 ≤ c.ms) && decide (c.ms ≤ 20) <;> simp
  · rw [head_false h]
    symm
    have : ((decide (1 ≤ c.pl) && decide (c.pl ≤ 4)) && (decide (1 ≤ c.ps) && decide (c.ps ≤ 8))) = false := by
      cases e : ((decide (1 ≤ c.pl) && decide (c.pl ≤ 4)) && (decide (1 ≤ c.ps) && decide (c.ps ≤ 8))) with
      | false => rfl
      | true => simp only [Bool.and_eq_true, decide_eq_true_eq] at e; exact absurd ⟨e.1, e.2⟩ h
    simp [this]
theorem any_step {α : Type} {l : List α} {q : α → Bool} {k : Nat} {x : α} (h : l[k]? = some x) (hx : q x = false) (ha : (l.take k).any q = false) : (l.take (k + 1)).any q = false := by
  rw [List.take_add_one, h, List.any_append, ha]; simp [hx]
theorem any_at {α : Type} {l : List α} {q : α → Bool} {k : Nat} {x : α} (h : l[k]? = some x) (hx : q x = true) : l.any q = true := List.any_eq_true.2 ⟨x, List.mem_of_getElem? h, hx⟩
end Go.Proofs.Ytagdholenfkeaaa

/- The document: who knows whom. -/
namespace Go.Proofs.Ytagdholenfkeaaa
open Go.Gh
set_option maxRecDepth 100000
set_option maxHeartbeats 4000000
structure kWb1 (c : Prop) : Prop where
  h : c := by (first | exact True.intro | (simp only [inI]; omega) | (simp [P.size, pr, pk, all_int, allOne_p, goods_p, allOne, goods, good, G.one, P.one, P.cells] <;> first | omega | assumption | simp_all))
theorem ent101 : Enters Try.prog 101 := Enters.mk Try.func101 (by kernel_rfl) rfl
theorem r_know (c : Ch) (h1 : c.kn.length ≤ 1048576) (a b : Int) : PSpec Try.prog 101 [.agg [.int .i64 c.pl, .int .i64 c.ps, .list (c.kn.map pk), .list (c.rs.map pr), .int .i64 c.ms], .int .i64 a, .int .i64 b] (.ok (.bool (knowI c.kn a b))) := by
  refine pspec_of Try.func101 (rfl : Try.f101.body = some _) rfl ?_
  intro E A C hN hL
  replace hN : C.N = 43 := hN
  simp only [Gh.num, List.map_cons, List.map_nil, Nat.reduceAdd]
  have hpk : ∀ k : Kw, pk k = P.agg [.int .i64 k.a, .int .i64 k.b] := fun _ => rfl
  have hpr : ∀ r : Rc, pr r = P.agg [.int .i64 r.p, .int .i64 r.f, .int .i64 r.t] := fun _ => rfl
  repeat refine gwp_seq ?_
  refine gwp_region ?_
  refine n1 130 false (hc := kWb1.h {}) (k := ?_)
  refine v0 (k := ?_)
  refine nil0 ?_
  refine cl [1, 2, 3] (k := ?_)
  repeat refine gwp_seq ?_
  refine gwp_region ?_
  refine v0 (k := ?_)
  refine nil0 ?_
  refine cl [1, 2, 3, 7] (k := ?_)
  repeat refine gwp_seq ?_
  refine gwp_block ?_
  repeat refine gwp_seq ?_
  refine gc_loop (fun mz σ => ∃ k : Nat, (k ≤ c.kn.length) ∧ ((c.kn.take k).any (knowQ a b) = false) ∧ mz = c.kn.length - k ∧ σ = (sg [(1, .p (.int .i64 a)), (2, .p (.int .i64 b)), (3, .ref 130 0), (7, .p (.int .i64 (k : Nat)))] [(130, .cells [.p (.int .i64 c.pl), .p (.int .i64 c.ps), .p (.list (c.kn.map pk)), .p (.list (c.rs.map pr)), .p (.int .i64 c.ms)] 0)] A [] : Sg E)) ?_ (fun mz σ hI => ?_)
  · refine lbeg [1, 2, 3, 7] (hV := ?_)
    exact ⟨_, 0, by omega, rfl, rfl, rfl⟩
  obtain ⟨k, hk, ha, hnn, rfl⟩ := hI
  repeat refine gwp_seq ?_
  refine gwp_region ?_
  refine v0 (k := ?_)
  refine v0 (k := ?_)
  refine v0 (k := ?_)
  refine v0 (k := ?_)
  refine v0 (k := ?_)
  refine nil0 ?_
  repeat refine gwp_seq ?_
  refine cB (k1 := fun hb1 => ?_) (k0 := fun hb1 => ?_)
  · replace hb1 := hB.h {} hb1
    try rw [eqI] at hb1
    repeat refine gwp_seq ?_
    refine gwp_skip ?_
    refine cl [1, 2, 3, 7] (k := ?_)
    repeat refine gwp_seq ?_
    refine gwp_block ?_
    repeat refine gwp_seq ?_
    obtain ⟨z, hz⟩ := getE (l := c.kn) (k := k) (by omega)
    have hkl := (List.getElem?_eq_some_iff.1 hz).1
    refine gwp_region ?_
    refine v0 (k := ?_)
    refine v0 (k := ?_)
    refine v0 (k := ?_)
    refine v1 (hc := kWb1.h {}) (k := ?_)
    refine v0 (k := ?_)
    refine n1 180 false (hc := kWb1.h {}) (k := ?_)
    refine s1 (hc := kWb1.h {}) (k := ?_)
    refine nil0 ?_
    refine cl [1, 2, 3, 7, 8] (k := ?_)
    repeat refine gwp_seq ?_
    refine gwp_region ?_
    refine v1 (hc := kWb1.h {}) (k := ?_)
    refine v0 (k := ?_)
    refine v0 (k := ?_)
    refine v0 (k := ?_)
    refine v0 (k := ?_)
    refine b0 (k1 := fun hb2 => ?_) (k0 := fun hb2 => ?_)
    · replace hb2 := hB.h {} hb2
      try rw [eqI] at hb2
      refine w1 (hc := kWb1.h {}) (k := ?_)
      refine w0 (k := ?_)
      refine w0 (k := ?_)
      refine w0 (k := ?_)
      refine v0 (k := ?_)
      refine v0 (k := ?_)
      refine b0 (k1 := fun hb3 => ?_) (k0 := fun hb3 => ?_)
      · replace hb3 := hB.h {} hb3
        try rw [eqI] at hb3
        refine x0 (k := ?_)
        refine x0 (k := ?_)
        refine x0 (k := ?_)
        refine x0 (k := ?_)
        refine x0 (k := ?_)
        refine x1 (k := ?_)
        refine x1 (k := ?_)
        refine x1 (k := ?_)
        refine x1 (k := ?_)
        refine x0 (k := ?_)
        refine v0 (k := ?_)
        refine nil0 ?_
        repeat refine gwp_seq ?_
        refine cT (k := ?_)
        repeat refine gwp_seq ?_
        refine gwp_region ?_
        refine v0 (k := ?_)
        refine nil0 ?_
        repeat refine gwp_seq ?_
        refine gwp_ret ?_
        repeat (first | refine gthen_ret ?_ | refine gblock_ret ?_ | refine gnoGoto_ret ?_)
        refine fin_ret ?_
        refine fp (hR := ?_)
        first
        | (have hq : knowI c.kn a b = true := any_at hz (by simp only [knowQ]; simp; omega)
           simp only [PRes.at, hq])
        | (obtain rfl : k = c.kn.length := by omega
           rw [List.take_length] at ha
           simp only [PRes.at, knowI, ha])
      · replace hb3 := hB.h {} hb3
        try rw [eqI] at hb3
        refine w1 (hc := kWb1.h {}) (k := ?_)
        refine w0 (k := ?_)
        refine w0 (k := ?_)
        refine w0 (k := ?_)
        refine w0 (k := ?_)
        refine b0 (k1 := fun hb4 => ?_) (k0 := fun hb4 => ?_)
        · replace hb4 := hB.h {} hb4
          try rw [eqI] at hb4
          refine w1 (hc := kWb1.h {}) (k := ?_)
          refine w0 (k := ?_)
          refine w0 (k := ?_)
          refine w0 (k := ?_)
          refine w0 (k := ?_)
          refine v0 (k := ?_)
          refine nil0 ?_
          repeat refine gwp_seq ?_
          refine cB (k1 := fun hb5 => ?_) (k0 := fun hb5 => ?_)
          · replace hb5 := hB.h {} hb5
            try rw [eqI] at hb5
            repeat refine gwp_seq ?_
            refine gwp_region ?_
            refine v0 (k := ?_)
            refine nil0 ?_
            repeat refine gwp_seq ?_
            refine gwp_ret ?_
            repeat (first | refine gthen_ret ?_ | refine gblock_ret ?_ | refine gnoGoto_ret ?_)
            refine fin_ret ?_
            refine fp (hR := ?_)
            first
            | (have hq : knowI c.kn a b = true := any_at hz (by simp only [knowQ]; simp; omega)
               simp only [PRes.at, hq])
            | (obtain rfl : k = c.kn.length := by omega
               rw [List.take_length] at ha
               simp only [PRes.at, knowI, ha])
          · replace hb5 := hB.h {} hb5
            try rw [eqI] at hb5
            repeat refine gwp_seq ?_
            refine gwp_skip ?_
            refine cl [1, 2, 3, 7] (k := ?_)
            repeat refine gwp_seq ?_
            refine gwp_region ?_
            refine v0 (k := ?_)
            refine v1 (hc := kWb1.h {}) (k := ?_)
            refine v0 (k := ?_)
            refine nil0 ?_
            refine lend [1, 2, 3, 7] (h := ?_) (hV := ?_) (n' := c.kn.length - (k + 1))
            · omega
            exact ⟨k + 1, by omega, any_step hz (by simp only [knowQ]; simp; omega) ha, rfl, rfl⟩
        · replace hb4 := hB.h {} hb4
          try rw [eqI] at hb4
          refine x0 (k := ?_)
          refine x0 (k := ?_)
          refine x0 (k := ?_)
          refine x0 (k := ?_)
          refine w0 (k := ?_)
          refine v0 (k := ?_)
          refine nil0 ?_
          repeat refine gwp_seq ?_
          refine cF (k := ?_)
          repeat refine gwp_seq ?_
          refine gwp_skip ?_
          refine cl [1, 2, 3, 7] (k := ?_)
          repeat refine gwp_seq ?_
          refine gwp_region ?_
          refine v0 (k := ?_)
          refine v1 (hc := kWb1.h {}) (k := ?_)
          refine v0 (k := ?_)
          refine nil0 ?_
          refine lend [1, 2, 3, 7] (h := ?_) (hV := ?_) (n' := c.kn.length - (k + 1))
          · omega
          exact ⟨k + 1, by omega, any_step hz (by simp only [knowQ]; simp; omega) ha, rfl, rfl⟩
    · replace hb2 := hB.h {} hb2
      try rw [eqI] at hb2
      refine x0 (k := ?_)
      refine x0 (k := ?_)
      refine x0 (k := ?_)
      refine x0 (k := ?_)
      refine v0 (k := ?_)
      refine v0 (k := ?_)
      refine w1 (hc := kWb1.h {}) (k := ?_)
      refine w0 (k := ?_)
      refine w0 (k := ?_)
      refine w0 (k := ?_)
      refine w0 (k := ?_)
      refine b0 (k1 := fun hb6 => ?_) (k0 := fun hb6 => ?_)
      · replace hb6 := hB.h {} hb6
        try rw [eqI] at hb6
        refine w1 (hc := kWb1.h {}) (k := ?_)
        refine w0 (k := ?_)
        refine w0 (k := ?_)
        refine w0 (k := ?_)
        refine w0 (k := ?_)
        refine v0 (k := ?_)
        refine nil0 ?_
        repeat refine gwp_seq ?_
        refine cB (k1 := fun hb7 => ?_) (k0 := fun hb7 => ?_)
        · replace hb7 := hB.h {} hb7
          try rw [eqI] at hb7
          repeat refine gwp_seq ?_
          refine gwp_region ?_
          refine v0 (k := ?_)
          refine nil0 ?_
          repeat refine gwp_seq ?_
          refine gwp_ret ?_
          repeat (first | refine gthen_ret ?_ | refine gblock_ret ?_ | refine gnoGoto_ret ?_)
          refine fin_ret ?_
          refine fp (hR := ?_)
          first
          | (have hq : knowI c.kn a b = true := any_at hz (by simp only [knowQ]; simp; omega)
             simp only [PRes.at, hq])
          | (obtain rfl : k = c.kn.length := by omega
             rw [List.take_length] at ha
             simp only [PRes.at, knowI, ha])
        · replace hb7 := hB.h {} hb7
          try rw [eqI] at hb7
          repeat refine gwp_seq ?_
          refine gwp_skip ?_
          refine cl [1, 2, 3, 7] (k := ?_)
          repeat refine gwp_seq ?_
          refine gwp_region ?_
          refine v0 (k := ?_)
          refine v1 (hc := kWb1.h {}) (k := ?_)
          refine v0 (k := ?_)
          refine nil0 ?_
          refine lend [1, 2, 3, 7] (h := ?_) (hV := ?_) (n' := c.kn.length - (k + 1))
          · omega
          exact ⟨k + 1, by omega, any_step hz (by simp only [knowQ]; simp; omega) ha, rfl, rfl⟩
      · replace hb6 := hB.h {} hb6
        try rw [eqI] at hb6
        refine x0 (k := ?_)
        refine x0 (k := ?_)
        refine x0 (k := ?_)
        refine x0 (k := ?_)
        refine w0 (k := ?_)
        refine v0 (k := ?_)
        refine nil0 ?_
        repeat refine gwp_seq ?_
        refine cF (k := ?_)
        repeat refine gwp_seq ?_
        refine gwp_skip ?_
        refine cl [1, 2, 3, 7] (k := ?_)
        repeat refine gwp_seq ?_
        refine gwp_region ?_
        refine v0 (k := ?_)
        refine v1 (hc := kWb1.h {}) (k := ?_)
        refine v0 (k := ?_)
        refine nil0 ?_
        refine lend [1, 2, 3, 7] (h := ?_) (hV := ?_) (n' := c.kn.length - (k + 1))
        · omega
        exact ⟨k + 1, by omega, any_step hz (by simp only [knowQ]; simp; omega) ha, rfl, rfl⟩
  · replace hb1 := hB.h {} hb1
    try rw [eqI] at hb1
    repeat refine gwp_seq ?_
    refine gwp_exit ?_
    repeat (first | refine gthen_exit ?_ | refine gnoGoto_exit ?_ | refine gblock_here ?_ | refine gblock_out rfl ?_)
    refine cl [] (k := ?_)
    repeat refine gwp_seq ?_
    refine gwp_region ?_
    refine v0 (k := ?_)
    refine nil0 ?_
    repeat refine gwp_seq ?_
    refine gwp_ret ?_
    repeat (first | refine gthen_ret ?_ | refine gblock_ret ?_ | refine gnoGoto_ret ?_)
    refine fin_ret ?_
    refine fp (hR := ?_)
    first
    | (have hq : knowI c.kn a b = true := any_at hz (by simp only [knowQ]; simp; omega)
       simp only [PRes.at, hq])
    | (obtain rfl : k = c.kn.length := by omega
       rw [List.take_length] at ha
       simp only [PRes.at, knowI, ha])
end Go.Proofs.Ytagdholenfkeaaa

/- The document's states: what spreading leads to. No program in sight. -/
namespace Go.Proofs.Ytagdholenfkeaaa
def setS (s : Mx) (b k : Nat) (v : Int) : Mx := fun i j => if i = b ∧ j = k then v else s i j
/-- One pair of persons. -/
def rlx (e : Nat → Nat → Bool) (who a b : Nat) (s : Mx) : Mx :=
  if e a b = true then
    (if b = who then setS (setS s b 1 (min (s b 1) (s a 1 + 1))) b 1 (min (min (s b 1) (s a 1 + 1)) (s a 0 + 1))
     else setS (setS s b 1 (min (s b 1) (s a 1 + 1))) b 0 (min (s b 0) (s a 0 + 1)))
  else s
def rowS (e : Nat → Nat → Bool) (who a : Nat) (s : Mx) : Nat → Mx
  | 0 => s
  | n + 1 => rlx e who a n (rowS e who a s n)
def rndS (e : Nat → Nat → Bool) (who P : Nat) (s : Mx) : Nat → Mx
  | 0 => s
  | n + 1 => rowS e who n (rndS e who P s n) P
def sprS (e : Nat → Nat → Bool) (who P : Nat) (s : Mx) : Nat → Mx
  | 0 => s
  | n + 1 => rndS e who P (sprS e who P s n) P
section
variable {e : Nat → Nat → Bool} {who P : Nat}
theorem sprS_front (s : Mx) : ∀ n, sprS e who P s (n + 1) = sprS e who P (rndS e who P s P) n
  | 0 => rfl
  | n + 1 => by rw [sprS, sprS_front s n, sprS]
theorem rlx_le (a b : Nat) (s : Mx) (i k : Nat) : rlx e who a b s i k ≤ s i k := by
  unfold rlx
  split
  · split
    · simp only [setS]
      repeat' split
      all_goals first | omega | (rename_i h; rw [h.1, h.2]; omega)
    · simp only [setS]
      repeat' split
      all_goals first | omega | (rename_i h; rw [h.1, h.2]; omega)
  · omega
theorem rowS_le (a : Nat) (s : Mx) (i k : Nat) : ∀ n, rowS e who a s n i k ≤ s i k
  | 0 => Int.le_refl _
  | n + 1 => Int.le_trans (rlx_le _ _ _ _ _) (rowS_le a s i k n)
theorem rndS_le (s : Mx) (i k : Nat) : ∀ n, rndS e who P s n i k ≤ s i k
  | 0 => Int.le_refl _
  | n + 1 => Int.le_trans (rowS_le _ _ _ _ _) (rndS_le s i k n)
theorem sprS_le (s : Mx) (i k : Nat) : ∀ n, sprS e who P s n i k ≤ s i k
  | 0 => Int.le_refl _
  | n + 1 => Int.le_trans (rndS_le _ _ _ _) (sprS_le s i k n)
theorem sprS_more (s : Mx) (i k n : Nat) : ∀ m, sprS e who P s (n + m) i k ≤ sprS e who P s n i k
  | 0 => Int.le_refl _
  | m + 1 => Int.le_trans (rndS_le _ _ _ _) (sprS_more s i k n m)
/-- What no pair of persons makes less. -/
structure Fix (e : Nat → Nat → Bool) (who : Nat) (F : Mx) : Prop where
  one : ∀ a b, e a b = true → F b 1 ≤ F a 1 + 1
  two : ∀ a b, e a b = true → b = who → F b 1 ≤ F a 0 + 1
  non : ∀ a b, e a b = true → b ≠ who → F b 0 ≤ F a 0 + 1
def Ge (F s : Mx) : Prop := ∀ i k, F i k ≤ s i k
theorem Fix.rlx {F s : Mx} (h : Fix e who F) (g : Ge F s) (a b : Nat) : Ge F (rlx e who a b s) := fun i k => by
  unfold Ytagdholenfkeaaa.rlx
  have g1 := g a 1; have g0 := g a 0
  split
  · rename_i he
    have h1 := h.one a b he
    split
    · rename_i hw
      have h2 := h.two a b he hw
      have g3 := g b 1
      simp only [setS]
      repeat' split
      all_goals first | exact g i k | (rename_i hh; rw [hh.1, hh.2]; omega)
    · rename_i hw
      have h2 := h.non a b he hw
      have g3 := g b 1; have g4 := g b 0
      simp only [setS]
      repeat' split
      all_goals first | exact g i k | (rename_i hh; rw [hh.1, hh.2]; omega)
  · exact g i k
theorem Fix.row {F s : Mx} (h : Fix e who F) (g : Ge F s) (a : Nat) : ∀ n, Ge F (rowS e who a s n)
  | 0 => g
  | n + 1 => h.rlx (h.row g a n) a n
theorem Fix.rnd {F s : Mx} (h : Fix e who F) (g : Ge F s) : ∀ n, Ge F (rndS e who P s n)
  | 0 => g
  | n + 1 => h.row (h.rnd g n) n P
theorem Fix.spr {F s : Mx} (h : Fix e who F) (g : Ge F s) : ∀ n, Ge F (sprS e who P s n)
  | 0 => g
  | n + 1 => h.rnd (h.spr g n) P
/-- What a pair of persons leads to. -/
theorem rlx_at (s : Mx) {a b : Nat} (he : e a b = true) : rlx e who a b s b 1 ≤ s a 1 + 1 ∧ (b = who → rlx e who a b s b 1 ≤ s a 0 + 1) ∧ (b ≠ who → rlx e who a b s b 0 ≤ s a 0 + 1) := by
  unfold rlx
  rw [if_pos he]
  by_cases hw : b = who
  · rw [if_pos hw]
    simp only [setS, and_self, reduceIte]
    exact ⟨by omega, fun _ => by omega, fun h => absurd hw h⟩
  · rw [if_neg hw]
    refine ⟨?_, fun h => absurd h hw, fun _ => ?_⟩
    · simp [setS]; omega
    · simp [setS]; omega
theorem rowS_at (s : Mx) {a b : Nat} (he : e a b = true) : ∀ n, b < n → rowS e who a s n b 1 ≤ s a 1 + 1 ∧ (b = who → rowS e who a s n b 1 ≤ s a 0 + 1) ∧ (b ≠ who → rowS e who a s n b 0 ≤ s a 0 + 1)
  | n + 1, hb => by
    simp only [rowS]
    by_cases hn : b = n
    · subst hn
      obtain ⟨h1, h2, h3⟩ := rlx_at (who := who) (rowS e who a s b) he
      have g1 := rowS_le (e := e) (who := who) a s a 1 b
      have g0 := rowS_le (e := e) (who := who) a s a 0 b
      exact ⟨by omega, fun h => by have := h2 h; omega, fun h => by have := h3 h; omega⟩
    · obtain ⟨h1, h2, h3⟩ := rowS_at s he n (by omega)
      have g1 := rlx_le (e := e) (who := who) a n (rowS e who a s n) b 1
      have g0 := rlx_le (e := e) (who := who) a n (rowS e who a s n) b 0
      exact ⟨by omega, fun h => by have := h2 h; omega, fun h => by have := h3 h; omega⟩
theorem rndS_at (s : Mx) {a b : Nat} (he : e a b = true) (hb : b < P) : ∀ n, a < n → rndS e who P s n b 1 ≤ s a 1 + 1 ∧ (b = who → rndS e who P s n b 1 ≤ s a 0 + 1) ∧ (b ≠ who → rndS e who P s n b 0 ≤ s a 0 + 1)
  | n + 1, ha => by
    simp only [rndS]
    by_cases hn : a = n
    · subst hn
      obtain ⟨h1, h2, h3⟩ := rowS_at (who := who) (rndS e who P s a) he P hb
      have g1 := rndS_le (e := e) (who := who) (P := P) s a 1 a
      have g0 := rndS_le (e := e) (who := who) (P := P) s a 0 a
      exact ⟨by omega, fun h => by have := h2 h; omega, fun h => by have := h3 h; omega⟩
    · obtain ⟨h1, h2, h3⟩ := rndS_at s he hb n (by omega)
      have g1 := rowS_le (e := e) (who := who) n (rndS e who P s n) b 1 P
      have g0 := rowS_le (e := e) (who := who) n (rndS e who P s n) b 0 P
      exact ⟨by omega, fun h => by have := h2 h; omega, fun h => by have := h3 h; omega⟩
end
section
variable {e eb : Nat → Nat → Bool} {who P : Nat} (he : ∀ a b, e a b = true → a < P ∧ b < P) (hb : ∀ a b, eb a b = true ↔ e a b = true ∧ a ≠ who ∧ b ≠ who)
include he
theorem walk_one : ∀ (n : Nat) (s : Mx) (i x : Nat), Wk e n i x → sprS e who P s n x 1 ≤ s i 1 + n
  | 0, s, i, x, h => by have h : i = x := h; subst h; simp [sprS]
  | n + 1, s, i, x, ⟨j, hj, h⟩ => by
    have h1 := walk_one n (rndS e who P s P) j x h
    have h2 := (rndS_at (who := who) s hj (he i j hj).2 P (he i j hj).1).1
    rw [sprS_front]; omega
include hb
theorem walk_non : ∀ (n : Nat) (s : Mx) (i x : Nat), Wk eb n i x → sprS e who P s n x 0 ≤ s i 0 + n
  | 0, s, i, x, h => by have h : i = x := h; subst h; simp [sprS]
  | n + 1, s, i, x, ⟨j, hj, h⟩ => by
    have hj' := (hb i j).1 hj
    have h1 := walk_non n (rndS e who P s P) j x h
    have h2 := (rndS_at (who := who) s hj'.1 (he i j hj'.1).2 P (he i j hj'.1).1).2.2 hj'.2.2
    rw [sprS_front]; omega
theorem walk_two : ∀ (n m : Nat) (s : Mx) (i a x : Nat), Wk eb n i a → e a who = true → Wk e m who x → sprS e who P s (n + 1 + m) x 1 ≤ s i 0 + n + 1 + m
  | 0, m, s, i, a, x, h, ha, hm => by
    have h : i = a := h
    subst h
    have h1 := walk_one (who := who) he m (rndS e who P s P) who x hm
    have h2 := (rndS_at (who := who) s ha (he i who ha).2 P (he i who ha).1).2.1 rfl
    rw [show 0 + 1 + m = m + 1 by omega, sprS_front]; omega
  | n + 1, m, s, i, a, x, ⟨j, hj, h⟩, ha, hm => by
    have hj' := (hb i j).1 hj
    have h1 := walk_two n m (rndS e who P s P) j a x h ha hm
    have h2 := (rndS_at (who := who) s hj'.1 (he i j hj'.1).2 P (he i j hj'.1).1).2.2 hj'.2.2
    rw [show n + 1 + 1 + m = (n + 1 + m) + 1 by omega, sprS_front]; omega
omit he in
/-- A walk comes by a person, or not. -/
theorem first_hit : ∀ (n i x : Nat), i ≠ who → Wk e n i x → Wk eb n i x ∨ ∃ m m' a, m + 1 + m' = n ∧ Wk eb m i a ∧ e a who = true ∧ Wk e m' who x
  | 0, i, x, _, h => .inl h
  | n + 1, i, x, hi, ⟨j, hj, h⟩ => by
    by_cases hw : j = who
    · subst hw
      exact .inr ⟨0, n, i, by omega, rfl, hj, h⟩
    · have hij := (hb i j).2 ⟨hj, hi, hw⟩
      rcases first_hit n j x hw h with h1 | ⟨m, m', a, hn, h1, h2, h3⟩
      · exact .inl ⟨j, hij, h1⟩
      · exact .inr ⟨m + 1, m', a, by omega, ⟨j, hij, h1⟩, h2, h3⟩
/-- What a state with one person leads to. -/
def Fm (e eb : Nat → Nat → Bool) (who h : Nat) (A B : Int) : Mx := fun x k =>
  if k = 0 then min 1000 (A + D eb h x) else if k = 1 then min 1000 (min (B + D e h x) (A + D e h who + D e who x)) else 1000
def ini1 (h : Nat) (A B : Int) : Mx := fun x k => if x = h then (if k = 0 then A else if k = 1 then B else 1000) else 1000
theorem Fm_fix (hP : P ≤ 8) (hw : who < P) {h : Nat} (hh : h < P) {A B : Int} (hA : 0 ≤ A) (hA1 : h = who → A = 1000) : Fix e who (Fm e eb who h A B) := by
  have he8 : ∀ a b, e a b = true → a < 8 ∧ b < 8 := fun a b x => by have := he a b x; omega
  have hbe : ∀ a b, eb a b = true → a < 8 ∧ b < 8 := fun a b x => he8 a b ((hb a b).1 x).1
  refine ⟨fun a b x => ?_, fun a b x y => ?_, fun a b x y => ?_⟩
  · have h1 := D_tri e (he8 a b x).1 h b
    have h2 := D_edge x
    have h3 := D_tri e (he8 a b x).1 who b
    simp only [Fm, Nat.one_ne_zero, reduceIte]; omega
  · subst y
    have h1 := D_tri e (he8 a b x).1 h b
    have h2 := D_edge x
    have h3 := (D_ok e).zz b
    have h4 := D_mono (e := eb) he8 (fun i j q => ((hb i j).1 q).1) h a
    simp only [Fm, Nat.one_ne_zero, reduceIte]; omega
  · simp only [Fm, reduceIte]
    by_cases ha : a = who
    · subst ha
      by_cases h1 : h = a
      · have := hA1 h1; have := (D_ok eb).nn h a; omega
      · have : D eb h a = NEV := by
          by_cases hl : D eb h a < NEV
          · obtain ⟨n, _, hwk⟩ := D_sound hl
            cases n with
            | zero => exact absurd hwk h1
            | succ n =>
              exfalso
              have : ∀ n i, ¬ Wk eb (n + 1) i a := fun n => by
                induction n with
                | zero => rintro i ⟨j, hj, hk⟩; have hk : j = a := hk; exact ((hb i j).1 hj).2.2 hk
                | succ n ih => rintro i ⟨j, hj, hk⟩; exact ih j hk
              exact this n h hwk
          · have := (D_ok eb).le h a; omega
        simp only [NEV] at this
        omega
    · have hab := (hb a b).2 ⟨x, ha, y⟩
      have h1 := D_tri eb (he8 a b x).1 h b
      have h2 := D_edge hab
      omega
theorem spr_eq (hP : P ≤ 8) (hw : who < P) {h : Nat} (hh : h < P) {A B : Int} (hA : 0 ≤ A ∧ A ≤ 1000) (hB : 0 ≤ B ∧ B ≤ 1000) (hA1 : h = who → A = 1000) {x k : Nat} (hk : k < 2) : sprS e who P (ini1 h A B) (2 * P) x k = Fm e eb who h A B x k := by
  have he8 : ∀ a b, e a b = true → a < 8 ∧ b < 8 := fun a b x => by have := he a b x; omega
  have hbP : ∀ a b, eb a b = true → a < P ∧ b < P := fun a b x => he a b ((hb a b).1 x).1
  have hge : Ge (Fm e eb who h A B) (ini1 h A B) := fun i j => by
    have z1 := (D_ok e).zz h; have z2 := (D_ok eb).zz h
    simp only [Fm, ini1]
    by_cases hi : i = h
    · subst hi
      rw [if_pos rfl]
      repeat' split
      all_goals omega
    · rw [if_neg hi]
      repeat' split
      all_goals omega
  have lo := (Fm_fix he hb hP hw hh (B := B) hA.1 hA1).spr (P := P) hge (2 * P) x k
  refine Int.le_antisymm ?_ lo
  have n1 := (D_ok e).nn h x; have n2 := (D_ok e).nn h who; have n3 := (D_ok e).nn who x; have n4 := (D_ok eb).nn h x
  have top : sprS e who P (ini1 h A B) (2 * P) x k ≤ 1000 := by
    have := sprS_le (e := e) (who := who) (P := P) (ini1 h A B) x k (2 * P)
    have : ini1 h A B x k ≤ 1000 := by
      simp only [ini1]
      repeat' split
      all_goals omega
    omega
  by_cases hk0 : k = 0
  · subst hk0
    simp only [Fm, reduceIte]
    by_cases hl : D eb h x < NEV
    · obtain ⟨n, hn, hwk⟩ := D_sound hl
      have h1 := D_lt hP hbP hh hl
      have h2 := walk_non he hb n (ini1 h A B) h x hwk
      have h3 := sprS_more (e := e) (who := who) (P := P) (ini1 h A B) x 0 n (2 * P - n)
      rw [show n + (2 * P - n) = 2 * P by omega] at h3
      simp only [ini1, reduceIte] at h2 h3 top ⊢
      omega
    · simp only [NEV] at hl; omega
  · obtain rfl : k = 1 := by omega
    simp only [Fm, Nat.one_ne_zero, reduceIte]
    have c1 : sprS e who P (ini1 h A B) (2 * P) x 1 ≤ B + D e h x := by
      by_cases hl : D e h x < NEV
      · obtain ⟨n, hn, hwk⟩ := D_sound hl
        have h1 := D_lt hP he hh hl
        have h2 := walk_one (who := who) he n (ini1 h A B) h x hwk
        have h3 := sprS_more (e := e) (who := who) (P := P) (ini1 h A B) x 1 n (2 * P - n)
        rw [show n + (2 * P - n) = 2 * P by omega] at h3
        simp only [ini1, reduceIte, Nat.one_ne_zero] at h2 h3 ⊢
        omega
      · simp only [NEV] at hl; omega
    have c2 : sprS e who P (ini1 h A B) (2 * P) x 1 ≤ A + D e h who + D e who x := by
      by_cases hw1 : h = who
      · have := hA1 hw1; omega
      by_cases hl : D e h who < NEV
      · by_cases hl2 : D e who x < NEV
        · obtain ⟨n, hn, hwk⟩ := D_sound hl
          obtain ⟨n2, hn2, hwk2⟩ := D_sound hl2
          have h1 := D_lt hP he hh hl
          have h1' := D_lt hP he hw hl2
          rcases first_hit hb n h who hw1 hwk with h4 | ⟨m, m', a, hm, g1, g2, g3⟩
          · exfalso
            cases n with
            | zero => exact hw1 h4
            | succ n =>
              have : ∀ n i, ¬ Wk eb (n + 1) i who := fun n => by
                induction n with
                | zero => rintro i ⟨j, hj, hk⟩; have hk : j = who := hk; exact ((hb i j).1 hj).2.2 hk
                | succ n ih => rintro i ⟨j, hj, hk⟩; exact ih j hk
              exact this n h h4
          · have h2 := walk_two he hb m (m' + n2) (ini1 h A B) h a x g1 g2 (g3.trans hwk2)
            have h3 := sprS_more (e := e) (who := who) (P := P) (ini1 h A B) x 1 (m + 1 + (m' + n2)) (2 * P - (m + 1 + (m' + n2)))
            rw [show m + 1 + (m' + n2) + (2 * P - (m + 1 + (m' + n2))) = 2 * P by omega] at h3
            simp only [ini1, reduceIte] at h2 h3 ⊢
            omega
        · simp only [NEV] at hl2; omega
      · simp only [NEV] at hl; omega
    omega
end
end Go.Proofs.Ytagdholenfkeaaa

/- The document's states as tables: what spreading does to them. -/
namespace Go.Proofs.Ytagdholenfkeaaa
open Go.Gh
def Bd (s : Mx) : Prop := ∀ i k, 0 ≤ s i k ∧ s i k ≤ 1000
section
variable {e : Nat → Nat → Bool} {who P : Nat} {s : Mx}
theorem fix0 : Fix e who (fun _ _ => 0) := ⟨fun _ _ _ => by omega, fun _ _ _ _ => by omega, fun _ _ _ _ => by omega⟩
theorem Bd.row (h : Bd s) (a n : Nat) : Bd (rowS e who a s n) := fun i k => ⟨fix0.row (fun i k => (h i k).1) a n i k, Int.le_trans (rowS_le _ _ _ _ _) (h i k).2⟩
theorem Bd.rnd (h : Bd s) (n : Nat) : Bd (rndS e who P s n) := fun i k => ⟨fix0.rnd (fun i k => (h i k).1) n i k, Int.le_trans (rndS_le _ _ _ _) (h i k).2⟩
theorem Bd.spr (h : Bd s) (n : Nat) : Bd (sprS e who P s n) := fun i k => ⟨fix0.spr (fun i k => (h i k).1) n i k, Int.le_trans (sprS_le _ _ _ _) (h i k).2⟩
end
def kE (l : List Kw) (i k : Nat) : Bool := knowI l i k
/-- A person with both numbers. -/
def begV (h who : Nat) (A B : Int) : Mx := if h = who then ini1 h 1000 (min A B) else ini1 h A B
theorem begV_bd {h who : Nat} {A B : Int} (hA : 0 ≤ A ∧ A ≤ 1000) (hB : 0 ≤ B ∧ B ≤ 1000) : Bd (begV h who A B) := fun i k => by
  simp only [begV]
  split
  · simp only [ini1]; repeat' split
    all_goals omega
  · simp only [ini1]; repeat' split
    all_goals omega
theorem stt_one {h who : Nat} {A B : Int} (e : h = who) (hh : h < 8) : (stt (fun _ _ => 1000)).set (h * 2 + 1) (.int .i64 (min A B)) = stt (begV h who A B) := by
  rw [stt_set _ hh (by omega), begV, if_pos e]
  refine stt_congr fun x _ y hy => ?_
  simp only [ini1]
  by_cases hx : x = h
  · subst hx
    simp only [reduceIte, true_and]
    by_cases h0 : y = 0
    · subst h0; simp
    · obtain rfl : y = 1 := by omega
      simp
  · rw [if_neg (by omega), if_neg hx]
theorem stt_two {h who : Nat} {A B : Int} (e : ¬ h = who) : stt (fun i j => if i = h then (if j = 0 then A else B) else 1000) = stt (begV h who A B) := by
  rw [begV, if_neg e]
  refine stt_congr fun x _ y hy => ?_
  simp only [ini1]
  by_cases hx : x = h
  · rw [if_pos hx, if_pos hx]
    by_cases h0 : y = 0
    · rw [if_pos h0, if_pos h0]
    · rw [if_neg h0, if_neg h0, if_pos (by omega)]
  · rw [if_neg hx, if_neg hx]
theorem set_S (s : Mx) {x y : Nat} (hx : x < 8) (hy : y < 2) (v : Int) : (stt s).set (x * 2 + y) (.int .i64 v) = stt (setS s x y v) := stt_set s hx hy v
theorem rlx_no {e : Nat → Nat → Bool} {who a b : Nat} {s : Mx} (h : e a b = false) : rlx e who a b s = s := by simp [rlx, h]
theorem rlx_who {e : Nat → Nat → Bool} {who a b : Nat} {s : Mx} (h : e a b = true) (hw : b = who) : rlx e who a b s = setS (setS s b 1 (min (s b 1) (s a 1 + 1))) b 1 (min (min (s b 1) (s a 1 + 1)) (s a 0 + 1)) := by
  rw [rlx, if_pos h, if_pos hw]
theorem rlx_oth {e : Nat → Nat → Bool} {who a b : Nat} {s : Mx} (h : e a b = true) (hw : ¬ b = who) : rlx e who a b s = setS (setS s b 1 (min (s b 1) (s a 1 + 1))) b 0 (min (s b 0) (s a 0 + 1)) := by
  rw [rlx, if_pos h, if_neg hw]
theorem setS_at (s : Mx) (x y : Nat) (v : Int) : setS s x y v x y = v := by simp [setS]
theorem setS_zero (s : Mx) (x i : Nat) (v : Int) : setS s x 1 v i 0 = s i 0 := by simp [setS]
end Go.Proofs.Ytagdholenfkeaaa

/- The document: begin and spread. -/
namespace Go.Proofs.Ytagdholenfkeaaa
open Go.Gh
set_option maxRecDepth 100000
set_option maxHeartbeats 4000000
structure kWe1 (c : Prop) : Prop where
  h : c := by (first | exact True.intro | omega | (simp only [List.length_map, stt_len, G.one, P.one, good, inI, Nat.add_zero, Nat.mul_one]; omega) | (simp [stt_len, G.one, P.one, good, goods, inI, allOne]; done) | (simp [stt_len, G.one, P.one, good, goods, inI, allOne]; omega) | (simp [stt_len, allOne_p, goods_p, G.one, P.one, good, goods, inI, allOne, stt]; done))
theorem ent105 : Enters Try.prog 105 := Enters.mk Try.func105 (by kernel_rfl) rfl
theorem r_begin (h : Nat) (hh : h < 8) (who : Nat) (x y : Int) (hx : 0 ≤ x ∧ x ≤ 1000) (hy : 0 ≤ y ∧ y ≤ 1000) : PSpec Try.prog 105 [.int .i64 (h : Nat), .int .i64 (who : Nat), .int .i64 x, .int .i64 y] (.ok (.agg (stt (begV h who x y)))) := by
  refine pspec_of Try.func105 (rfl : Try.f105.body = some _) rfl ?_
  intro E A C hN hL
  replace hN : C.N = 26 := hN
  simp only [Gh.num, List.map_cons, List.map_nil, Nat.reduceAdd]
  repeat refine gwp_seq ?_
  refine gwp_region ?_
  refine n1 180 false (hc := kWe1.h {}) (k := ?_)
  refine nil0 ?_
  refine cl [0, 1, 2, 3, 8] (k := ?_)
  repeat refine gwp_seq ?_
  rw [show ([.p (.int .i64 0), .p (.int .i64 0), .p (.int .i64 0), .p (.int .i64 0), .p (.int .i64 0), .p (.int .i64 0), .p (.int .i64 0), .p (.int .i64 0), .p (.int .i64 0), .p (.int .i64 0), .p (.int .i64 0), .p (.int .i64 0), .p (.int .i64 0), .p (.int .i64 0), .p (.int .i64 0), .p (.int .i64 0)] : List G) = ((stt (fun _ _ => 0)).map G.p) from rfl]
  have htk := takeS
  have hdr := dropS
  have hone := oneS
  have hlen := stt_len
  refine gwp_region ?_
  refine pc0 (spec := r_nobody) (hent := ent113) (k := ?_)
  refine n1 190 false (hc := kWe1.h {}) (k := ?_)
  refine s1 (hc := kWe1.h {}) (k := ?_)
  refine nil0 ?_
  refine cl [0, 1, 2, 3, 8, 9] (k := ?_)
  repeat refine gwp_seq ?_
  refine gwp_region ?_
  refine v0 (k := ?_)
  refine v0 (k := ?_)
  refine v0 (k := ?_)
  refine nil0 ?_
  repeat refine gwp_seq ?_
  refine cB (k1 := fun hb1 => ?_) (k0 := fun hb1 => ?_)
  · replace hb1 := hB.h {} hb1
    try rw [eqI] at hb1
    repeat refine gwp_seq ?_
    have hse := stt_one (A := x) (B := y) (show h = who by omega) hh
    refine gwp_region ?_
    refine v0 (k := ?_)
    refine v0 (k := ?_)
    refine v0 (k := ?_)
    refine v0 (k := ?_)
    refine v1 (hc := kWe1.h {}) (k := ?_)
    refine v1 (hc := kWe1.h {}) (k := ?_)
    refine s1 (hc := kWe1.h {}) (k := ?_)
    refine nil0 ?_
    refine cl [8, 9] (k := ?_)
    repeat refine gwp_seq ?_
    refine gwp_region ?_
    refine v0 (k := ?_)
    refine s1 (hc := kWe1.h {}) (k := ?_)
    refine nil0 ?_
    repeat refine gwp_seq ?_
    refine gwp_ret ?_
    repeat (first | refine gthen_ret ?_ | refine gblock_ret ?_ | refine gnoGoto_ret ?_)
    refine fin_ret ?_
    refine fp (g := .p (.agg (stt (begV h who x y)))) (v := .agg (stt (begV h who x y))) (d := 0 + 16 ≤ 16 ∧ True) (d' := True) (hg := by (simp only [gresult, gresL, gres1, tup_one, mkFr_cons, mkFr_nil, mkHp_cons, mkHp_nil, Nat.reduceEqDiff, reduceIte, ti_108, gload, isAggD, mkAgg, List.drop_zero, takeS, allP_p, List.length_map, stt_len] <;> rfl)) (hp := by simp only [toP]) (hR := ?_)
    rfl
  · replace hb1 := hB.h {} hb1
    try rw [eqI] at hb1
    repeat refine gwp_seq ?_
    have hsp := pairG (fun _ _ => 1000) (x := h) hh x y
    simp only [stt_two (A := x) (B := y) (show ¬ h = who by omega)] at hsp
    refine gwp_region ?_
    refine v0 (k := ?_)
    refine v0 (k := ?_)
    refine v0 (k := ?_)
    refine v0 (k := ?_)
    refine v1 (hc := kWe1.h {}) (k := ?_)
    refine s1 (hc := kWe1.h {}) (k := ?_)
    refine nil0 ?_
    refine cl [8, 9] (k := ?_)
    repeat refine gwp_seq ?_
    refine gwp_region ?_
    refine v0 (k := ?_)
    refine s1 (hc := kWe1.h {}) (k := ?_)
    refine nil0 ?_
    repeat refine gwp_seq ?_
    refine gwp_ret ?_
    repeat (first | refine gthen_ret ?_ | refine gblock_ret ?_ | refine gnoGoto_ret ?_)
    refine fin_ret ?_
    refine fp (g := .p (.agg (stt (begV h who x y)))) (v := .agg (stt (begV h who x y))) (d := 0 + 16 ≤ 16 ∧ True) (d' := True) (hg := by (simp only [gresult, gresL, gres1, tup_one, mkFr_cons, mkFr_nil, mkHp_cons, mkHp_nil, Nat.reduceEqDiff, reduceIte, ti_108, gload, isAggD, mkAgg, List.drop_zero, takeS, allP_p, List.length_map, stt_len] <;> rfl)) (hp := by simp only [toP]) (hR := ?_)
    rfl
theorem ent104 : Enters Try.prog 104 := Enters.mk Try.func104 (by kernel_rfl) rfl
theorem r_spread (c : Ch) (hv : c.valid = true) (s : Mx) (hs : Bd s) (who : Nat) (hw : who < 8) : PSpec Try.prog 104 [.agg [.int .i64 c.pl, .int .i64 c.ps, .list (c.kn.map pk), .list (c.rs.map pr), .int .i64 c.ms], .agg (stt s), .int .i64 (who : Nat)] (.ok (.agg (stt (sprS (kE c.kn) who c.ps.toNat s (2 * c.ps.toNat))))) := by
  refine pspec_of Try.func104 (rfl : Try.f104.body = some _) rfl ?_
  intro E A C hN hL
  replace hN : C.N = 77 := hN
  simp only [Gh.num, List.map_cons, List.map_nil, Nat.reduceAdd]
  have hn := valid_num hv
  repeat refine gwp_seq ?_
  refine gwp_region ?_
  refine n1 130 false (hc := kWe1.h {}) (k := ?_)
  refine n1 140 false (hc := kWe1.h {}) (k := ?_)
  refine n1 160 false (hc := kWe1.h {}) (k := ?_)
  refine nil0 ?_
  refine cl [2, 3, 4, 6] (k := ?_)
  repeat refine gwp_seq ?_
  rw [show ([.p (.int .i64 0), .p (.int .i64 0), .p (.int .i64 0), .p (.int .i64 0), .p (.int .i64 0), .p (.int .i64 0), .p (.int .i64 0), .p (.int .i64 0), .p (.int .i64 0), .p (.int .i64 0), .p (.int .i64 0), .p (.int .i64 0), .p (.int .i64 0), .p (.int .i64 0), .p (.int .i64 0), .p (.int .i64 0)] : List G) = ((stt (fun _ _ => 0)).map G.p) from rfl]
  have htk := takeS
  have hdr := dropS
  have hone := oneS
  have hlen := stt_len
  refine gwp_region ?_
  refine v0 (k := ?_)
  refine nil0 ?_
  refine cl [2, 3, 4, 6, 7] (k := ?_)
  repeat refine gwp_seq ?_
  refine gwp_block ?_
  repeat refine gwp_seq ?_
  refine gc_loop (fun mz σ => ∃ n : Nat, (n ≤ 2 * c.ps.toNat) ∧ mz = 2 * c.ps.toNat - n ∧ σ = (sg [(2, .p (.int .i64 (who : Nat))), (3, .ref 130 0), (4, .ref 140 0), (6, .ref 160 0), (7, .p (.int .i64 (n : Nat)))] [(130, .cells [.p (.int .i64 c.pl), .p (.int .i64 c.ps), .p (.list (c.kn.map pk)), .p (.list (c.rs.map pr)), .p (.int .i64 c.ms)] 0), (140, .cells ((stt (sprS (kE c.kn) who c.ps.toNat s n)).map G.p) 0), (160, .cells ((stt (fun _ _ => 0)).map G.p) 0)] A [] : Sg E)) ?_ (fun mz σ hI => ?_)
  · refine lbeg [2, 3, 4, 6, 7] (hV := ?_)
    exact ⟨_, 0, by omega, rfl, rfl⟩
  obtain ⟨n, hn0, hnn0, rfl⟩ := hI
  repeat refine gwp_seq ?_
  refine gwp_region ?_
  refine v0 (k := ?_)
  refine v0 (k := ?_)
  refine v0 (k := ?_)
  refine v1 (hc := kWe1.h {}) (k := ?_)
  refine v0 (k := ?_)
  refine nil0 ?_
  repeat refine gwp_seq ?_
  refine cB (k1 := fun hb1 => ?_) (k0 := fun hb1 => ?_)
  · replace hb1 := hB.h {} hb1
    try rw [eqI] at hb1
    repeat refine gwp_seq ?_
    refine gwp_skip ?_
    refine cl [2, 3, 4, 6, 7] (k := ?_)
    repeat refine gwp_seq ?_
    refine gwp_block ?_
    repeat refine gwp_seq ?_
    refine gwp_region ?_
    refine v0 (k := ?_)
    refine nil0 ?_
    refine cl [2, 3, 4, 6, 7, 8] (k := ?_)
    repeat refine gwp_seq ?_
    refine gwp_block ?_
    repeat refine gwp_seq ?_
    refine gc_loop (fun mz σ => ∃ a : Nat, (a ≤ c.ps.toNat) ∧ mz = c.ps.toNat - a ∧ σ = (sg [(2, .p (.int .i64 (who : Nat))), (3, .ref 130 0), (4, .ref 140 0), (6, .ref 160 0), (7, .p (.int .i64 (n : Nat))), (8, .p (.int .i64 (a : Nat)))] [(130, .cells [.p (.int .i64 c.pl), .p (.int .i64 c.ps), .p (.list (c.kn.map pk)), .p (.list (c.rs.map pr)), .p (.int .i64 c.ms)] 0), (140, .cells ((stt (rndS (kE c.kn) who c.ps.toNat (sprS (kE c.kn) who c.ps.toNat s n) a)).map G.p) 0), (160, .cells ((stt (fun _ _ => 0)).map G.p) 0)] A [] : Sg E)) ?_ (fun mz σ hI => ?_)
    · refine lbeg [2, 3, 4, 6, 7, 8] (hV := ?_)
      exact ⟨_, 0, by omega, rfl, rfl⟩
    obtain ⟨a, ha0, hnn1, rfl⟩ := hI
    repeat refine gwp_seq ?_
    refine gwp_region ?_
    refine v0 (k := ?_)
    refine v0 (k := ?_)
    refine v0 (k := ?_)
    refine v0 (k := ?_)
    refine nil0 ?_
    repeat refine gwp_seq ?_
    refine cB (k1 := fun hb2 => ?_) (k0 := fun hb2 => ?_)
    · replace hb2 := hB.h {} hb2
      try rw [eqI] at hb2
      repeat refine gwp_seq ?_
      refine gwp_skip ?_
      refine cl [2, 3, 4, 6, 7, 8] (k := ?_)
      repeat refine gwp_seq ?_
      refine gwp_block ?_
      repeat refine gwp_seq ?_
      refine gwp_region ?_
      refine v0 (k := ?_)
      refine nil0 ?_
      refine cl [2, 3, 4, 6, 7, 8, 9] (k := ?_)
      repeat refine gwp_seq ?_
      refine gwp_block ?_
      repeat refine gwp_seq ?_
      refine gc_loop (fun mz σ => ∃ b : Nat, (b ≤ c.ps.toNat) ∧ mz = c.ps.toNat - b ∧ σ = (sg [(2, .p (.int .i64 (who : Nat))), (3, .ref 130 0), (4, .ref 140 0), (6, .ref 160 0), (7, .p (.int .i64 (n : Nat))), (8, .p (.int .i64 (a : Nat))), (9, .p (.int .i64 (b : Nat)))] [(130, .cells [.p (.int .i64 c.pl), .p (.int .i64 c.ps), .p (.list (c.kn.map pk)), .p (.list (c.rs.map pr)), .p (.int .i64 c.ms)] 0), (140, .cells ((stt (rowS (kE c.kn) who a (rndS (kE c.kn) who c.ps.toNat (sprS (kE c.kn) who c.ps.toNat s n) a) b)).map G.p) 0), (160, .cells ((stt (fun _ _ => 0)).map G.p) 0)] A [] : Sg E)) ?_ (fun mz σ hI => ?_)
      · refine lbeg [2, 3, 4, 6, 7, 8, 9] (hV := ?_)
        exact ⟨_, 0, by omega, rfl, rfl⟩
      obtain ⟨b, hb0, hnn2, rfl⟩ := hI
      repeat refine gwp_seq ?_
      refine gwp_region ?_
      refine v0 (k := ?_)
      refine v0 (k := ?_)
      refine v0 (k := ?_)
      refine v0 (k := ?_)
      refine nil0 ?_
      repeat refine gwp_seq ?_
      refine cB (k1 := fun hb3 => ?_) (k0 := fun hb3 => ?_)
      · replace hb3 := hB.h {} hb3
        try rw [eqI] at hb3
        repeat refine gwp_seq ?_
        refine gwp_skip ?_
        refine cl [2, 3, 4, 6, 7, 8, 9] (k := ?_)
        repeat refine gwp_seq ?_
        refine gwp_block ?_
        repeat refine gwp_seq ?_
        refine gwp_region ?_
        refine v0 (k := ?_)
        refine v0 (k := ?_)
        refine v0 (k := ?_)
        refine pc0 (spec := r_know c (by omega) a b) (hent := ent101) (k := ?_)
        refine v0 (k := ?_)
        refine nil0 ?_
        repeat refine gwp_seq ?_
        refine cB (k1 := fun hb4 => ?_) (k0 := fun hb4 => ?_)
        · replace hb4 := hB.h {} hb4
          try rw [eqI] at hb4
          repeat refine gwp_seq ?_
          refine gwp_exit ?_
          repeat (first | refine gthen_exit ?_ | refine gnoGoto_exit ?_ | refine gblock_here ?_ | refine gblock_out rfl ?_)
          refine cl [2, 3, 4, 6, 7, 8, 9] (k := ?_)
          repeat refine gwp_seq ?_
          refine gwp_region ?_
          refine v0 (k := ?_)
          refine v1 (hc := kWe1.h {}) (k := ?_)
          refine v0 (k := ?_)
          refine nil0 ?_
          refine lend [2, 3, 4, 6, 7, 8, 9] (h := ?_) (hV := ?_) (n' := c.ps.toNat - (b + 1))
          · omega
          first
          | exact ⟨b + 1, by omega, rfl, sgE rfl (by rw [rowS, rlx_no (show knowI c.kn a b = false by assumption)])⟩
          | exact ⟨b + 1, by omega, rfl, sgE rfl (by rw [rowS, hS, rlx_who (show knowI c.kn a b = true by assumption) (by omega)])⟩
          | exact ⟨b + 1, by omega, rfl, sgE rfl (by rw [rowS, hS, rlx_oth (show knowI c.kn a b = true by assumption) (by omega)])⟩
        · replace hb4 := hB.h {} hb4
          try rw [eqI] at hb4
          repeat refine gwp_seq ?_
          refine gwp_skip ?_
          refine cl [2, 3, 4, 6, 7, 8, 9] (k := ?_)
          repeat refine gwp_seq ?_
          obtain ⟨S, hS⟩ : ∃ S, rowS (kE c.kn) who a (rndS (kE c.kn) who c.ps.toNat (sprS (kE c.kn) who c.ps.toNat s n) a) b = S := ⟨_, rfl⟩
          rw [hS]
          have hBd : Bd S := hS ▸ ((hs.spr n).rnd a).row a b
          have b1 := hBd a 0
          have b2 := hBd a 1
          have b3 := hBd b 0
          have b4 := hBd b 1
          have ha8 : a < 8 := by omega
          have hb8 : b < 8 := by omega
          have g1 := stt_get S hb8 (y := 1) (by omega)
          have g2 := stt_get S ha8 (y := 1) (by omega)
          have w1 := set_S S hb8 (y := 1) (by omega) (min (S b 1) (S a 1 + 1))
          refine rd ?_
          refine d0 0 (k := ?_)
          refine d0 1 (k := ?_)
          refine d1 2 (hc := kWe1.h {}) (k := ?_)
          refine d1 3 (hc := kWe1.h {}) (k := ?_)
          refine d0 4 (k := ?_)
          refine d0 5 (k := ?_)
          refine d1 6 (hc := kWe1.h {}) (k := ?_)
          refine d1 7 (hc := kWe1.h {}) (k := ?_)
          refine d0 8 (k := ?_)
          refine d1 9 (hc := kWe1.h {}) (k := ?_)
          refine d0 10 (k := ?_)
          refine d1 11 (hc := kWe1.h {}) (k := ?_)
          refine d1 12 (hc := kWe1.h {}) (k := ?_)
          refine ds1 13 (hc := kWe1.h {}) (k := ?_)
          refine dz 14 [0, 0, 2, 6, 14, 0, 32, 96, 224, 480, 1022, 1, 4095, 8191] (h := ?_)
          refine de 14 (h := ?_)
          refine cl [2, 3, 4, 6, 7, 8, 9] (k := ?_)
          repeat refine gwp_seq ?_
          refine gwp_region ?_
          refine v0 (k := ?_)
          refine v0 (k := ?_)
          refine v0 (k := ?_)
          refine nil0 ?_
          repeat refine gwp_seq ?_
          refine cB (k1 := fun hb5 => ?_) (k0 := fun hb5 => ?_)
          · replace hb5 := hB.h {} hb5
            try rw [eqI] at hb5
            repeat refine gwp_seq ?_
            have g3 := stt_get (setS S b 1 (min (S b 1) (S a 1 + 1))) hb8 (y := 1) (by omega)
            have g4 := stt_get (setS S b 1 (min (S b 1) (S a 1 + 1))) ha8 (y := 0) (by omega)
            rw [setS_at] at g3
            rw [setS_zero, Nat.add_zero] at g4
            have w2 := set_S (setS S b 1 (min (S b 1) (S a 1 + 1))) hb8 (y := 1) (by omega) (min (min (S b 1) (S a 1 + 1)) (S a 0 + 1))
            clear g1 g2 w1
            refine rd ?_
            refine d0 0 (k := ?_)
            refine d0 1 (k := ?_)
            refine d1 2 (hc := kWe1.h {}) (k := ?_)
            refine d1 3 (hc := kWe1.h {}) (k := ?_)
            refine d0 4 (k := ?_)
            refine d0 5 (k := ?_)
            refine d1 6 (hc := kWe1.h {}) (k := ?_)
            refine d1 7 (hc := kWe1.h {}) (k := ?_)
            refine d0 8 (k := ?_)
            refine d1 9 (hc := kWe1.h {}) (k := ?_)
            refine d0 10 (k := ?_)
            refine d1 11 (hc := kWe1.h {}) (k := ?_)
            refine d1 12 (hc := kWe1.h {}) (k := ?_)
            refine ds1 13 (hc := kWe1.h {}) (k := ?_)
            refine dz 14 [0, 0, 2, 6, 14, 0, 32, 96, 224, 480, 1022, 1, 4095, 8191] (h := ?_)
            refine de 14 (h := ?_)
            refine cl [2, 3, 4, 6, 7, 8, 9] (k := ?_)
            repeat refine gwp_seq ?_
            refine gwp_region ?_
            refine v0 (k := ?_)
            refine v1 (hc := kWe1.h {}) (k := ?_)
            refine v0 (k := ?_)
            refine nil0 ?_
            refine lend [2, 3, 4, 6, 7, 8, 9] (h := ?_) (hV := ?_) (n' := c.ps.toNat - (b + 1))
            · omega
            first
            | exact ⟨b + 1, by omega, rfl, sgE rfl (by rw [rowS, rlx_no (show knowI c.kn a b = false by assumption)])⟩
            | exact ⟨b + 1, by omega, rfl, sgE rfl (by rw [rowS, hS, rlx_who (show knowI c.kn a b = true by assumption) (by omega)])⟩
            | exact ⟨b + 1, by omega, rfl, sgE rfl (by rw [rowS, hS, rlx_oth (show knowI c.kn a b = true by assumption) (by omega)])⟩
          · replace hb5 := hB.h {} hb5
            try rw [eqI] at hb5
            repeat refine gwp_seq ?_
            have g3 := stt_get (setS S b 1 (min (S b 1) (S a 1 + 1))) hb8 (y := 0) (by omega)
            have g4 := stt_get (setS S b 1 (min (S b 1) (S a 1 + 1))) ha8 (y := 0) (by omega)
            rw [setS_zero, Nat.add_zero] at g3 g4
            have w2 := set_S (setS S b 1 (min (S b 1) (S a 1 + 1))) hb8 (y := 0) (by omega) (min (S b 0) (S a 0 + 1))
            rw [Nat.add_zero] at w2
            clear g1 g2 w1
            refine rd ?_
            refine d0 0 (k := ?_)
            refine d0 1 (k := ?_)
            refine d1 2 (hc := kWe1.h {}) (k := ?_)
            refine d1 3 (hc := kWe1.h {}) (k := ?_)
            refine d0 4 (k := ?_)
            refine d0 5 (k := ?_)
            refine d1 6 (hc := kWe1.h {}) (k := ?_)
            refine d1 7 (hc := kWe1.h {}) (k := ?_)
            refine d0 8 (k := ?_)
            refine d1 9 (hc := kWe1.h {}) (k := ?_)
            refine d0 10 (k := ?_)
            refine d1 11 (hc := kWe1.h {}) (k := ?_)
            refine d1 12 (hc := kWe1.h {}) (k := ?_)
            refine ds1 13 (hc := kWe1.h {}) (k := ?_)
            refine dz 14 [0, 0, 2, 6, 14, 0, 32, 96, 224, 480, 1022, 1, 4095, 8191] (h := ?_)
            refine de 14 (h := ?_)
            refine cl [2, 3, 4, 6, 7, 8, 9] (k := ?_)
            repeat refine gwp_seq ?_
            refine gwp_region ?_
            refine v0 (k := ?_)
            refine v1 (hc := kWe1.h {}) (k := ?_)
            refine v0 (k := ?_)
            refine nil0 ?_
            refine lend [2, 3, 4, 6, 7, 8, 9] (h := ?_) (hV := ?_) (n' := c.ps.toNat - (b + 1))
            · omega
            first
            | exact ⟨b + 1, by omega, rfl, sgE rfl (by rw [rowS, rlx_no (show knowI c.kn a b = false by assumption)])⟩
            | exact ⟨b + 1, by omega, rfl, sgE rfl (by rw [rowS, hS, rlx_who (show knowI c.kn a b = true by assumption) (by omega)])⟩
            | exact ⟨b + 1, by omega, rfl, sgE rfl (by rw [rowS, hS, rlx_oth (show knowI c.kn a b = true by assumption) (by omega)])⟩
      · replace hb3 := hB.h {} hb3
        try rw [eqI] at hb3
        repeat refine gwp_seq ?_
        refine gwp_exit ?_
        repeat (first | refine gthen_exit ?_ | refine gnoGoto_exit ?_ | refine gblock_here ?_ | refine gblock_out rfl ?_)
        refine cl [2, 3, 4, 6, 7, 8] (k := ?_)
        repeat refine gwp_seq ?_
        obtain rfl : b = c.ps.toNat := by omega
        refine gwp_region ?_
        refine v0 (k := ?_)
        refine v1 (hc := kWe1.h {}) (k := ?_)
        refine v0 (k := ?_)
        refine nil0 ?_
        refine lend [2, 3, 4, 6, 7, 8] (h := ?_) (hV := ?_) (n' := c.ps.toNat - (a + 1))
        · omega
        exact ⟨a + 1, by omega, rfl, rfl⟩
    · replace hb2 := hB.h {} hb2
      try rw [eqI] at hb2
      repeat refine gwp_seq ?_
      refine gwp_exit ?_
      repeat (first | refine gthen_exit ?_ | refine gnoGoto_exit ?_ | refine gblock_here ?_ | refine gblock_out rfl ?_)
      refine cl [2, 3, 4, 6, 7] (k := ?_)
      repeat refine gwp_seq ?_
      obtain rfl : a = c.ps.toNat := by omega
      refine gwp_region ?_
      refine v0 (k := ?_)
      refine v1 (hc := kWe1.h {}) (k := ?_)
      refine v0 (k := ?_)
      refine nil0 ?_
      refine lend [2, 3, 4, 6, 7] (h := ?_) (hV := ?_) (n' := 2 * c.ps.toNat - (n + 1))
      · omega
      exact ⟨n + 1, by omega, rfl, rfl⟩
  · replace hb1 := hB.h {} hb1
    try rw [eqI] at hb1
    repeat refine gwp_seq ?_
    refine gwp_exit ?_
    repeat (first | refine gthen_exit ?_ | refine gnoGoto_exit ?_ | refine gblock_here ?_ | refine gblock_out rfl ?_)
    refine cl [4, 6] (k := ?_)
    repeat refine gwp_seq ?_
    obtain rfl : n = 2 * c.ps.toNat := by omega
    refine gwp_region ?_
    refine v0 (k := ?_)
    refine s1 (hc := kWe1.h {}) (k := ?_)
    refine nil0 ?_
    repeat refine gwp_seq ?_
    refine gwp_ret ?_
    repeat (first | refine gthen_ret ?_ | refine gblock_ret ?_ | refine gnoGoto_ret ?_)
    refine fin_ret ?_
    refine fp (g := .p (.agg (stt (sprS (kE c.kn) who c.ps.toNat s (2 * c.ps.toNat))))) (v := .agg (stt (sprS (kE c.kn) who c.ps.toNat s (2 * c.ps.toNat)))) (d := 0 + 16 ≤ 16 ∧ True) (d' := True) (hg := by (simp only [gresult, gresL, gres1, tup_one, mkFr_cons, mkFr_nil, mkHp_cons, mkHp_nil, Nat.reduceEqDiff, reduceIte, ti_108, gload, isAggD, mkAgg, List.drop_zero, takeS, allP_p, List.length_map, stt_len] <;> rfl)) (hp := by simp only [toP]) (hR := ?_)
    rfl
end Go.Proofs.Ytagdholenfkeaaa

/- Sizes of sets. -/
namespace Go.Proofs.Ytagdholenfkeaaa
theorem popF_succ : ∀ (f q : Nat), q < 2 ^ f → popF (f + 1) q = popF f q
  | 0, q, h => by
    have : q = 0 := by simpa using h
    subst this; rfl
  | f + 1, q, h => by
    rw [popF, popF_succ f (q / 2) (by rw [Nat.pow_succ] at h; omega), popF]
theorem popF_le : ∀ (f q : Nat), popF f q ≤ f
  | 0, _ => Nat.le_refl _
  | f + 1, q => by
    have := popF_le f (q / 2)
    rw [popF]; omega
theorem pop_le (n : Nat) : pop n ≤ 64 := popF_le 64 n
theorem pop_half {m : Nat} (h : m < 4096) : pop m = m % 2 + pop (m / 2) := by
  show m % 2 + popF 63 (m / 2) = m % 2 + popF 64 (m / 2)
  rw [popF_succ 63 (m / 2) (by omega)]
theorem pop_zero : pop 0 = 0 := by decide
end Go.Proofs.Ytagdholenfkeaaa

/- The document: sets. -/
namespace Go.Proofs.Ytagdholenfkeaaa
open Go.Gh
set_option maxRecDepth 100000
set_option maxHeartbeats 4000000
structure kWc1 (c : Prop) : Prop where
  h : c := by (first | exact True.intro | decide | (simp only [inI]; omega) | (refine ⟨?_, ?_⟩ <;> (try simp only [inI]) <;> omega))
theorem ent90 : Enters Try.prog 90 := Enters.mk Try.func90 (by kernel_rfl) rfl
theorem r_has (set n : Nat) (hn : n ≤ 40) (hs : set ≤ 1048576) : PSpec Try.prog 90 [.int .i64 (set : Nat), .int .i64 (n : Nat)] (.ok (.bool (set.testBit n))) := by
  refine pspec_of Try.func90 (rfl : Try.f90.body = some _) rfl ?_
  intro E A C hN hL
  replace hN : C.N = 11 := hN
  simp only [Gh.num, List.map_cons, List.map_nil, Nat.reduceAdd]
  have hp := Nat.two_pow_pos n
  obtain ⟨q, hq⟩ : ∃ q, set / 2 ^ n = q := ⟨_, rfl⟩
  have e1 : (set : Int).tdiv ((2 ^ n : Nat) : Int) = (q : Int) := by rw [← hq]; exact (Int.ofNat_tdiv set (2 ^ n)).symm
  have e2 : (q : Int).tmod 2 = ((q % 2 : Nat) : Int) := (Int.ofNat_tmod q 2).symm
  have e3 : q ≤ set := hq ▸ Nat.div_le_self _ _
  repeat refine gwp_seq ?_
  refine gwp_region ?_
  refine v0 (k := ?_)
  refine nil0 ?_
  refine cl [0, 1] (k := ?_)
  repeat refine gwp_seq ?_
  refine gwp_region ?_
  refine v0 (k := ?_)
  refine v0 (k := ?_)
  refine pc0 (spec := r_power n hn) (hent := ent85) (k := ?_)
  refine v1 (hc := kWc1.h {}) (k := ?_)
  refine v1 (hc := kWc1.h {}) (k := ?_)
  refine v0 (k := ?_)
  refine v0 (k := ?_)
  refine nil0 ?_
  repeat refine gwp_seq ?_
  refine gwp_ret ?_
  repeat (first | refine gthen_ret ?_ | refine gblock_ret ?_ | refine gnoGoto_ret ?_)
  refine fin_ret ?_
  refine fp (hR := ?_)
  simp only [PRes.at, GRes.ok.injEq, G.p.injEq, P.bool.injEq, and_true]
  rw [Nat.testBit_eq_decide_div_mod_eq, hq]
  congr 1
  apply propext
  omega
theorem ent38 : Enters Try.prog 38 := Enters.mk Try.func38 (by kernel_rfl) rfl
theorem r_size (n : Nat) (h : n < 4096) : PSpec Try.prog 38 [.int .i64 (n : Nat)] (.ok (.int .i64 (pop n))) := by
  refine pspec_of Try.func38 (rfl : Try.f38.body = some _) rfl ?_
  intro E A C hN hL
  replace hN : C.N = 13 := hN
  simp only [Gh.num, List.map_cons, List.map_nil, Nat.reduceAdd]
  repeat refine gwp_seq ?_
  refine gwp_region ?_
  refine v0 (k := ?_)
  refine nil0 ?_
  refine cl [0] (k := ?_)
  repeat refine gwp_seq ?_
  refine gwp_region ?_
  refine v0 (k := ?_)
  refine nil0 ?_
  refine cl [0, 3] (k := ?_)
  repeat refine gwp_seq ?_
  refine gwp_block ?_
  repeat refine gwp_seq ?_
  refine gc_loop (fun mz σ => ∃ (c m : Nat), (c + pop m = pop n) ∧ (m ≤ n) ∧ mz = m ∧ σ = (sg [(0, .p (.int .i64 (m : Nat))), (3, .p (.int .i64 (c : Nat)))] [] A [] : Sg E)) ?_ (fun mz σ hI => ?_)
  · refine lbeg [0, 3] (hV := ?_)
    exact ⟨_, 0, n, by omega, by omega, rfl, rfl⟩
  obtain ⟨c, m, hc, hm, hnn, rfl⟩ := hI
  have hp1 := pop_half (m := m) (by omega)
  have hp2 := pop_le n
  have e1 : (m : Int).tmod 2 = ((m % 2 : Nat) : Int) := (Int.ofNat_tmod m 2).symm
  have e2 : (m : Int).tdiv 2 = ((m / 2 : Nat) : Int) := (Int.ofNat_tdiv m 2).symm
  repeat refine gwp_seq ?_
  refine gwp_region ?_
  refine v0 (k := ?_)
  refine v0 (k := ?_)
  refine nil0 ?_
  repeat refine gwp_seq ?_
  refine cB (k1 := fun hb1 => ?_) (k0 := fun hb1 => ?_)
  · replace hb1 := hB.h {} hb1
    repeat refine gwp_seq ?_
    refine gwp_skip ?_
    refine cl [0, 3] (k := ?_)
    repeat refine gwp_seq ?_
    refine gwp_block ?_
    repeat refine gwp_seq ?_
    refine gwp_region ?_
    refine v0 (k := ?_)
    refine v0 (k := ?_)
    refine v1 (hc := kWc1.h {}) (k := ?_)
    refine v1 (hc := kWc1.h {}) (k := ?_)
    refine v0 (k := ?_)
    refine nil0 ?_
    refine cl [0, 3] (k := ?_)
    repeat refine gwp_seq ?_
    refine gwp_region ?_
    refine v0 (k := ?_)
    refine v1 (hc := kWc1.h {}) (k := ?_)
    refine v0 (k := ?_)
    refine nil0 ?_
    repeat refine gblock_normal ?_
    refine lend [0, 3] (h := ?_) (hV := ?_) (n' := m / 2)
    · omega
    exact ⟨c + m % 2, m / 2, by omega, by omega, rfl, rfl⟩
  · replace hb1 := hB.h {} hb1
    repeat refine gwp_seq ?_
    refine gwp_exit ?_
    repeat (first | refine gthen_exit ?_ | refine gnoGoto_exit ?_ | refine gblock_here ?_ | refine gblock_out rfl ?_)
    refine cl [3] (k := ?_)
    repeat refine gwp_seq ?_
    refine gwp_region ?_
    refine v0 (k := ?_)
    refine v0 (k := ?_)
    refine nil0 ?_
    repeat refine gwp_seq ?_
    refine gwp_ret ?_
    repeat (first | refine gthen_ret ?_ | refine gblock_ret ?_ | refine gnoGoto_ret ?_)
    refine fin_ret ?_
    refine fp (hR := ?_)
    obtain rfl : m = 0 := by omega
    rw [← hc, pop_zero]
    rfl
end Go.Proofs.Ytagdholenfkeaaa

/- Rules of written-out states: sums that are wrapped, in regions in order. -/
namespace Go.Proofs.Ytagdholenfkeaaa
open Go.Gh
set_option maxRecDepth 100000
variable {E : Env Try.prog} {C : Cx E} {r : Option Nat} {ops : Array Oper} {Q : GE → Sg E → Prop} {rest : List Oper} {l : List (Nat × G)} {m : List (Nat × Ob)} {A : E.α} {df : List GD} {t : Nat} {ty : TypeId} {pos : String} {af : Array Edge}
theorem q0 {bo : BinOp} {t1 t2 : TypeId} {x y : Operand} {u v z : Int} (hx : gev (mkFr l) x = .p (.int .i64 u) := by (simp only [gev, ofV, mkFr_cons, Nat.reduceEqDiff, reduceIte] <;> rfl)) (hy : gev (mkFr l) y = .p (.int .i64 v) := by (simp only [gev, ofV, mkFr_cons, Nat.reduceEqDiff, reduceIte] <;> rfl)) (hb : (bo = .add ∧ z = u + v) ∨ (bo = .sub ∧ z = u - v) := by first | exact .inl ⟨rfl, rfl⟩ | exact .inr ⟨rfl, rfl⟩)
    (hd : mkHp m 99999 = .none := by (simp only [mkHp_cons, mkHp_nil, Nat.reduceEqDiff, reduceIte])) (ht : t < C.N := by omega) (k : gops C r ops Q rest (sg ((t, .p (.int .i64 (IntKind.i64.wrap z))) :: l) m A df)) :
    gops C r ops Q (⟨some t, .binOp bo t1 x y t2, ty, pos, af, none⟩ :: rest) (sg l m A df) :=
  gops_eff (eff_wrap (σ := sg l m A df) rfl hb (gwant_plain rfl) hx hy hd (by have := C.limOk; omega) (fun t' e => by cases e; exact ht)) k
end Go.Proofs.Ytagdholenfkeaaa

/- The document: which chains are valid. -/
namespace Go.Proofs.Ytagdholenfkeaaa
open Go.Gh
set_option maxRecDepth 100000
set_option maxHeartbeats 4000000
structure kWf1 (c : Prop) : Prop where
  h : c := by (first | exact True.intro | (simp only [inI]; omega) | (simp [P.size, pr, pk, all_int, allOne_p, goods_p, allOne, goods, good, G.one, P.one, P.cells] <;> first | omega | assumption | simp_all))
theorem s_inW (n m : Int) : PSpec Try.prog 50 [.int .i64 n, .int .i64 0, .int .i64 (IntKind.i64.wrap (m - 1))] (.ok (.bool (inW n m))) := s_in n 0 _
theorem ent49 : Enters Try.prog 49 := Enters.mk Try.func49 (by kernel_rfl) rfl
theorem r_plateW (c : Ch) (n : Int) : PSpec Try.prog 49 [.agg [.int .i64 c.pl, .int .i64 c.ps, .list (c.kn.map pk), .list (c.rs.map pr), .int .i64 c.ms], .int .i64 n] (.ok (.bool (inW n c.pl))) := by
  refine pspec_of Try.func49 (rfl : Try.f49.body = some _) rfl ?_
  intro E A C hN hL
  replace hN : C.N = 10 := hN
  simp only [Gh.num, List.map_cons, List.map_nil, Nat.reduceAdd]
  repeat refine gwp_seq ?_
  refine gwp_region ?_
  refine n1 120 false (hc := kWf1.h {}) (k := ?_)
  refine v0 (k := ?_)
  refine nil0 ?_
  refine cl [1, 2] (k := ?_)
  repeat refine gwp_seq ?_
  refine gwp_region ?_
  refine v0 (k := ?_)
  refine v0 (k := ?_)
  refine v0 (k := ?_)
  refine q0 (k := ?_)
  refine pc0 (spec := s_in _ _ _) (hent := ent50) (k := ?_)
  refine v0 (k := ?_)
  refine nil0 ?_
  repeat refine gwp_seq ?_
  refine gwp_ret ?_
  repeat (first | refine gthen_ret ?_ | refine gblock_ret ?_ | refine gnoGoto_ret ?_)
  refine fin_ret ?_
  refine fp (hR := ?_)
  rfl
theorem ent89 : Enters Try.prog 89 := Enters.mk Try.func89 (by kernel_rfl) rfl
theorem r_personW (c : Ch) (n : Int) : PSpec Try.prog 89 [.agg [.int .i64 c.pl, .int .i64 c.ps, .list (c.kn.map pk), .list (c.rs.map pr), .int .i64 c.ms], .int .i64 n] (.ok (.bool (inW n c.ps))) := by
  refine pspec_of Try.func89 (rfl : Try.f89.body = some _) rfl ?_
  intro E A C hN hL
  replace hN : C.N = 10 := hN
  simp only [Gh.num, List.map_cons, List.map_nil, Nat.reduceAdd]
  repeat refine gwp_seq ?_
  refine gwp_region ?_
  refine n1 120 false (hc := kWf1.h {}) (k := ?_)
  refine v0 (k := ?_)
  refine nil0 ?_
  refine cl [1, 2] (k := ?_)
  repeat refine gwp_seq ?_
  refine gwp_region ?_
  refine v0 (k := ?_)
  refine v0 (k := ?_)
  refine v0 (k := ?_)
  refine q0 (k := ?_)
  refine pc0 (spec := s_in _ _ _) (hent := ent50) (k := ?_)
  refine v0 (k := ?_)
  refine nil0 ?_
  repeat refine gwp_seq ?_
  refine gwp_ret ?_
  repeat (first | refine gthen_ret ?_ | refine gblock_ret ?_ | refine gnoGoto_ret ?_)
  refine fin_ret ?_
  refine fp (hR := ?_)
  rfl
theorem ent35 : Enters Try.prog 35 := Enters.mk Try.func35 (by kernel_rfl) rfl
theorem r_chain (c : Ch) (h1 : c.kn.length ≤ 1048576) (h2 : c.rs.length ≤ 1048576) : PSpec Try.prog 35 [.agg [.int .i64 c.pl, .int .i64 c.ps, .list (c.kn.map pk), .list (c.rs.map pr), .int .i64 c.ms]] (.ok (.bool c.valid)) := by
  refine pspec_of Try.func35 (rfl : Try.f35.body = some _) rfl ?_
  intro E A C hN hL
  replace hN : C.N = 103 := hN
  simp only [Gh.num, List.map_cons, List.map_nil, Nat.reduceAdd]
  have hpk : ∀ k : Kw, pk k = P.agg [.int .i64 k.a, .int .i64 k.b] := fun _ => rfl
  have hpr : ∀ r : Rc, pr r = P.agg [.int .i64 r.p, .int .i64 r.f, .int .i64 r.t] := fun _ => rfl
  repeat refine gwp_seq ?_
  refine gwp_region ?_
  refine n1 110 false (hc := kWf1.h {}) (k := ?_)
  refine v0 (k := ?_)
  refine nil0 ?_
  refine cl [1] (k := ?_)
  repeat refine gwp_seq ?_
  refine gwp_region ?_
  refine v0 (k := ?_)
  refine nil0 ?_
  refine cl [1, 3] (k := ?_)
  repeat refine gwp_seq ?_
  refine gwp_block ?_
  repeat refine gwp_seq ?_
  refine gc_loop (fun mz σ => ∃ k : Nat, (k ≤ c.kn.length) ∧ ((c.kn.take k).any (badKW c.ps) = false) ∧ mz = c.kn.length - k ∧ σ = (sg [(1, .ref 110 0), (3, .p (.int .i64 (k : Nat)))] [(110, .cells [.p (.int .i64 c.pl), .p (.int .i64 c.ps), .p (.list (c.kn.map pk)), .p (.list (c.rs.map pr)), .p (.int .i64 c.ms)] 0)] A [] : Sg E)) ?_ (fun mz σ hI => ?_)
  · refine lbeg [1, 3] (hV := ?_)
    exact ⟨_, 0, by omega, rfl, rfl, rfl⟩
  obtain ⟨k, hk, ha, hnn, rfl⟩ := hI
  repeat refine gwp_seq ?_
  refine gwp_region ?_
  refine v0 (k := ?_)
  refine v0 (k := ?_)
  refine v0 (k := ?_)
  refine v0 (k := ?_)
  refine v0 (k := ?_)
  refine nil0 ?_
  repeat refine gwp_seq ?_
  refine cB (k1 := fun hb1 => ?_) (k0 := fun hb1 => ?_)
  · replace hb1 := hB.h {} hb1
    repeat refine gwp_seq ?_
    refine gwp_skip ?_
    refine cl [1, 3] (k := ?_)
    repeat refine gwp_seq ?_
    refine gwp_block ?_
    repeat refine gwp_seq ?_
    obtain ⟨z, hz⟩ := getE (l := c.kn) (k := k) (by omega)
    refine gwp_region ?_
    refine v0 (k := ?_)
    refine v0 (k := ?_)
    refine v0 (k := ?_)
    refine v1 (hc := kWf1.h {}) (k := ?_)
    refine v0 (k := ?_)
    refine n1 140 false (hc := kWf1.h {}) (k := ?_)
    refine s1 (hc := kWf1.h {}) (k := ?_)
    refine nil0 ?_
    refine cl [1, 3, 4] (k := ?_)
    repeat refine gwp_seq ?_
    refine gwp_region ?_
    refine v0 (k := ?_)
    refine v1 (hc := kWf1.h {}) (k := ?_)
    refine v0 (k := ?_)
    refine pc0 (spec := r_personW c _) (hent := ent89) (k := ?_)
    refine v0 (k := ?_)
    refine v0 (k := ?_)
    refine b0 (k1 := fun hb2 => ?_) (k0 := fun hb2 => ?_)
    · replace hb2 := hB.h {} hb2
      refine x0 (k := ?_)
      refine x0 (k := ?_)
      refine x0 (k := ?_)
      refine x0 (k := ?_)
      refine x0 (k := ?_)
      refine v0 (k := ?_)
      refine v0 (k := ?_)
      refine x0 (k := ?_)
      refine x0 (k := ?_)
      refine x0 (k := ?_)
      refine x0 (k := ?_)
      refine x0 (k := ?_)
      refine v0 (k := ?_)
      refine nil0 ?_
      repeat refine gwp_seq ?_
      refine cT (k := ?_)
      repeat refine gwp_seq ?_
      refine gwp_region ?_
      refine v0 (k := ?_)
      refine nil0 ?_
      repeat refine gwp_seq ?_
      refine gwp_ret ?_
      repeat (first | refine gthen_ret ?_ | refine gblock_ret ?_ | refine gnoGoto_ret ?_)
      refine fin_ret ?_
      refine fp (hR := ?_)
      first
      | (rw [valid_badK hz (by simp only [badKW]; simp [*]; done)]; rfl)
      | (rw [valid_badR hw (by simp only [badRW]; simp [*]; done)]; rfl)
      | (rw [valid_end ha hr]
         simp only [PRes.at, GRes.ok.injEq, G.p.injEq, P.bool.injEq, and_true]
         first | (simp [*]; done) | (symm; simp; omega) | (simp; omega))
    · replace hb2 := hB.h {} hb2
      refine w0 (k := ?_)
      refine w1 (hc := kWf1.h {}) (k := ?_)
      refine w0 (k := ?_)
      refine pcw (spec := r_personW c _) (hent := ent89) (k := ?_)
      refine w0 (k := ?_)
      refine v0 (k := ?_)
      refine v0 (k := ?_)
      refine b0 (k1 := fun hb3 => ?_) (k0 := fun hb3 => ?_)
      · replace hb3 := hB.h {} hb3
        refine x0 (k := ?_)
        refine x0 (k := ?_)
        refine x0 (k := ?_)
        refine x0 (k := ?_)
        refine x0 (k := ?_)
        refine v0 (k := ?_)
        refine nil0 ?_
        repeat refine gwp_seq ?_
        refine cT (k := ?_)
        repeat refine gwp_seq ?_
        refine gwp_region ?_
        refine v0 (k := ?_)
        refine nil0 ?_
        repeat refine gwp_seq ?_
        refine gwp_ret ?_
        repeat (first | refine gthen_ret ?_ | refine gblock_ret ?_ | refine gnoGoto_ret ?_)
        refine fin_ret ?_
        refine fp (hR := ?_)
        first
        | (rw [valid_badK hz (by simp only [badKW]; simp [*]; done)]; rfl)
        | (rw [valid_badR hw (by simp only [badRW]; simp [*]; done)]; rfl)
        | (rw [valid_end ha hr]
           simp only [PRes.at, GRes.ok.injEq, G.p.injEq, P.bool.injEq, and_true]
           first | (simp [*]; done) | (symm; simp; omega) | (simp; omega))
      · replace hb3 := hB.h {} hb3
        refine w1 (hc := kWf1.h {}) (k := ?_)
        refine w0 (k := ?_)
        refine w1 (hc := kWf1.h {}) (k := ?_)
        refine w0 (k := ?_)
        refine w0 (k := ?_)
        refine v0 (k := ?_)
        refine nil0 ?_
        repeat refine gwp_seq ?_
        refine cB (k1 := fun hb4 => ?_) (k0 := fun hb4 => ?_)
        · replace hb4 := hB.h {} hb4
          repeat refine gwp_seq ?_
          refine gwp_region ?_
          refine v0 (k := ?_)
          refine nil0 ?_
          repeat refine gwp_seq ?_
          refine gwp_ret ?_
          repeat (first | refine gthen_ret ?_ | refine gblock_ret ?_ | refine gnoGoto_ret ?_)
          refine fin_ret ?_
          refine fp (hR := ?_)
          first
          | (rw [valid_badK hz (by simp only [badKW]; simp [*]; done)]; rfl)
          | (rw [valid_badR hw (by simp only [badRW]; simp [*]; done)]; rfl)
          | (rw [valid_end ha hr]
             simp only [PRes.at, GRes.ok.injEq, G.p.injEq, P.bool.injEq, and_true]
             first | (simp [*]; done) | (symm; simp; omega) | (simp; omega))
        · replace hb4 := hB.h {} hb4
          repeat refine gwp_seq ?_
          refine gwp_skip ?_
          refine cl [1, 3] (k := ?_)
          repeat refine gwp_seq ?_
          refine gwp_region ?_
          refine v0 (k := ?_)
          refine v1 (hc := kWf1.h {}) (k := ?_)
          refine v0 (k := ?_)
          refine nil0 ?_
          refine lend [1, 3] (h := ?_) (hV := ?_) (n' := c.kn.length - (k + 1))
          · omega
          exact ⟨k + 1, by omega, any_step hz (by simp only [badKW]; simp [*]; done) ha, rfl, rfl⟩
  · replace hb1 := hB.h {} hb1
    repeat refine gwp_seq ?_
    refine gwp_exit ?_
    repeat (first | refine gthen_exit ?_ | refine gnoGoto_exit ?_ | refine gblock_here ?_ | refine gblock_out rfl ?_)
    refine cl [1] (k := ?_)
    repeat refine gwp_seq ?_
    obtain rfl : k = c.kn.length := by omega
    rw [List.take_length] at ha
    refine gwp_region ?_
    refine v0 (k := ?_)
    refine nil0 ?_
    refine cl [1, 5] (k := ?_)
    repeat refine gwp_seq ?_
    refine gwp_block ?_
    repeat refine gwp_seq ?_
    refine gc_loop (fun mz σ => ∃ k : Nat, (k ≤ c.rs.length) ∧ ((c.rs.take k).any (badRW c.pl c.ps) = false) ∧ mz = c.rs.length - k ∧ σ = (sg [(1, .ref 110 0), (5, .p (.int .i64 (k : Nat)))] [(110, .cells [.p (.int .i64 c.pl), .p (.int .i64 c.ps), .p (.list (c.kn.map pk)), .p (.list (c.rs.map pr)), .p (.int .i64 c.ms)] 0)] A [] : Sg E)) ?_ (fun mz σ hI => ?_)
    · refine lbeg [1, 5] (hV := ?_)
      exact ⟨_, 0, by omega, rfl, rfl, rfl⟩
    obtain ⟨k, hk, hr, hnn, rfl⟩ := hI
    repeat refine gwp_seq ?_
    refine gwp_region ?_
    refine v0 (k := ?_)
    refine v0 (k := ?_)
    refine v0 (k := ?_)
    refine v0 (k := ?_)
    refine v0 (k := ?_)
    refine nil0 ?_
    repeat refine gwp_seq ?_
    refine cB (k1 := fun hb5 => ?_) (k0 := fun hb5 => ?_)
    · replace hb5 := hB.h {} hb5
      repeat refine gwp_seq ?_
      refine gwp_skip ?_
      refine cl [1, 5] (k := ?_)
      repeat refine gwp_seq ?_
      refine gwp_block ?_
      repeat refine gwp_seq ?_
      obtain ⟨w, hw⟩ := getE (l := c.rs) (k := k) (by omega)
      refine gwp_region ?_
      refine v0 (k := ?_)
      refine v0 (k := ?_)
      refine v0 (k := ?_)
      refine v1 (hc := kWf1.h {}) (k := ?_)
      refine v0 (k := ?_)
      refine n1 160 false (hc := kWf1.h {}) (k := ?_)
      refine s1 (hc := kWf1.h {}) (k := ?_)
      refine nil0 ?_
      refine cl [1, 5, 6] (k := ?_)
      repeat refine gwp_seq ?_
      refine gwp_region ?_
      refine v0 (k := ?_)
      refine v0 (k := ?_)
      refine v0 (k := ?_)
      refine v0 (k := ?_)
      refine q0 (k := ?_)
      refine pc0 (spec := s_inW w.p c.pl) (hent := ent50) (k := ?_)
      refine v0 (k := ?_)
      refine v0 (k := ?_)
      refine b0 (k1 := fun hb6 => ?_) (k0 := fun hb6 => ?_)
      · replace hb6 := hB.h {} hb6
        refine x0 (k := ?_)
        refine x0 (k := ?_)
        refine x0 (k := ?_)
        refine x0 (k := ?_)
        refine x0 (k := ?_)
        refine v0 (k := ?_)
        refine v0 (k := ?_)
        refine x0 (k := ?_)
        refine x0 (k := ?_)
        refine x0 (k := ?_)
        refine x0 (k := ?_)
        refine x0 (k := ?_)
        refine v0 (k := ?_)
        refine v0 (k := ?_)
        refine x0 (k := ?_)
        refine x0 (k := ?_)
        refine x0 (k := ?_)
        refine x0 (k := ?_)
        refine x0 (k := ?_)
        refine v0 (k := ?_)
        refine nil0 ?_
        repeat refine gwp_seq ?_
        refine cT (k := ?_)
        repeat refine gwp_seq ?_
        refine gwp_region ?_
        refine v0 (k := ?_)
        refine nil0 ?_
        repeat refine gwp_seq ?_
        refine gwp_ret ?_
        repeat (first | refine gthen_ret ?_ | refine gblock_ret ?_ | refine gnoGoto_ret ?_)
        refine fin_ret ?_
        refine fp (hR := ?_)
        first
        | (rw [valid_badK hz (by simp only [badKW]; simp [*]; done)]; rfl)
        | (rw [valid_badR hw (by simp only [badRW]; simp [*]; done)]; rfl)
        | (rw [valid_end ha hr]
           simp only [PRes.at, GRes.ok.injEq, G.p.injEq, P.bool.injEq, and_true]
           first | (simp [*]; done) | (symm; simp; omega) | (simp; omega))
      · replace hb6 := hB.h {} hb6
        refine w0 (k := ?_)
        refine w0 (k := ?_)
        refine w0 (k := ?_)
        refine pcw (spec := r_personW c _) (hent := ent89) (k := ?_)
        refine w0 (k := ?_)
        refine v0 (k := ?_)
        refine v0 (k := ?_)
        refine b0 (k1 := fun hb7 => ?_) (k0 := fun hb7 => ?_)
        · replace hb7 := hB.h {} hb7
          refine x0 (k := ?_)
          refine x0 (k := ?_)
          refine x0 (k := ?_)
          refine x0 (k := ?_)
          refine x0 (k := ?_)
          refine v0 (k := ?_)
          refine v0 (k := ?_)
          refine x0 (k := ?_)
          refine x0 (k := ?_)
          refine x0 (k := ?_)
          refine x0 (k := ?_)
          refine x0 (k := ?_)
          refine v0 (k := ?_)
          refine nil0 ?_
          repeat refine gwp_seq ?_
          refine cT (k := ?_)
          repeat refine gwp_seq ?_
          refine gwp_region ?_
          refine v0 (k := ?_)
          refine nil0 ?_
          repeat refine gwp_seq ?_
          refine gwp_ret ?_
          repeat (first | refine gthen_ret ?_ | refine gblock_ret ?_ | refine gnoGoto_ret ?_)
          refine fin_ret ?_
          refine fp (hR := ?_)
          first
          | (rw [valid_badK hz (by simp only [badKW]; simp [*]; done)]; rfl)
          | (rw [valid_badR hw (by simp only [badRW]; simp [*]; done)]; rfl)
          | (rw [valid_end ha hr]
             simp only [PRes.at, GRes.ok.injEq, G.p.injEq, P.bool.injEq, and_true]
             first | (simp [*]; done) | (symm; simp; omega) | (simp; omega))
        · replace hb7 := hB.h {} hb7
          refine w0 (k := ?_)
          refine w0 (k := ?_)
          refine w0 (k := ?_)
          refine pcw (spec := r_personW c _) (hent := ent89) (k := ?_)
          refine w0 (k := ?_)
          refine v0 (k := ?_)
          refine v0 (k := ?_)
          refine b0 (k1 := fun hb8 => ?_) (k0 := fun hb8 => ?_)
          · replace hb8 := hB.h {} hb8
            refine x0 (k := ?_)
            refine x0 (k := ?_)
            refine x0 (k := ?_)
            refine x0 (k := ?_)
            refine x0 (k := ?_)
            refine v0 (k := ?_)
            refine nil0 ?_
            repeat refine gwp_seq ?_
            refine cT (k := ?_)
            repeat refine gwp_seq ?_
            refine gwp_region ?_
            refine v0 (k := ?_)
            refine nil0 ?_
            repeat refine gwp_seq ?_
            refine gwp_ret ?_
            repeat (first | refine gthen_ret ?_ | refine gblock_ret ?_ | refine gnoGoto_ret ?_)
            refine fin_ret ?_
            refine fp (hR := ?_)
            first
            | (rw [valid_badK hz (by simp only [badKW]; simp [*]; done)]; rfl)
            | (rw [valid_badR hw (by simp only [badRW]; simp [*]; done)]; rfl)
            | (rw [valid_end ha hr]
               simp only [PRes.at, GRes.ok.injEq, G.p.injEq, P.bool.injEq, and_true]
               first | (simp [*]; done) | (symm; simp; omega) | (simp; omega))
          · replace hb8 := hB.h {} hb8
            refine w0 (k := ?_)
            refine w0 (k := ?_)
            refine w0 (k := ?_)
            refine w0 (k := ?_)
            refine w0 (k := ?_)
            refine v0 (k := ?_)
            refine nil0 ?_
            repeat refine gwp_seq ?_
            refine cB (k1 := fun hb9 => ?_) (k0 := fun hb9 => ?_)
            · replace hb9 := hB.h {} hb9
              repeat refine gwp_seq ?_
              refine gwp_region ?_
              refine v0 (k := ?_)
              refine nil0 ?_
              repeat refine gwp_seq ?_
              refine gwp_ret ?_
              repeat (first | refine gthen_ret ?_ | refine gblock_ret ?_ | refine gnoGoto_ret ?_)
              refine fin_ret ?_
              refine fp (hR := ?_)
              first
              | (rw [valid_badK hz (by simp only [badKW]; simp [*]; done)]; rfl)
              | (rw [valid_badR hw (by simp only [badRW]; simp [*]; done)]; rfl)
              | (rw [valid_end ha hr]
                 simp only [PRes.at, GRes.ok.injEq, G.p.injEq, P.bool.injEq, and_true]
                 first | (simp [*]; done) | (symm; simp; omega) | (simp; omega))
            · replace hb9 := hB.h {} hb9
              repeat refine gwp_seq ?_
              refine gwp_skip ?_
              refine cl [1, 5] (k := ?_)
              repeat refine gwp_seq ?_
              refine gwp_region ?_
              refine v0 (k := ?_)
              refine v1 (hc := kWf1.h {}) (k := ?_)
              refine v0 (k := ?_)
              refine nil0 ?_
              refine lend [1, 5] (h := ?_) (hV := ?_) (n' := c.rs.length - (k + 1))
              · omega
              exact ⟨k + 1, by omega, any_step hw (by simp only [badRW]; simp [*]; done) hr, rfl, rfl⟩
    · replace hb5 := hB.h {} hb5
      repeat refine gwp_seq ?_
      refine gwp_exit ?_
      repeat (first | refine gthen_exit ?_ | refine gnoGoto_exit ?_ | refine gblock_here ?_ | refine gblock_out rfl ?_)
      refine cl [1] (k := ?_)
      repeat refine gwp_seq ?_
      obtain rfl : k = c.rs.length := by omega
      rw [List.take_length] at hr
      refine gwp_region ?_
      refine v0 (k := ?_)
      refine v0 (k := ?_)
      refine pc0 (spec := s_in _ _ _) (hent := ent50) (k := ?_)
      refine v0 (k := ?_)
      refine b0 (k1 := fun hb10 => ?_) (k0 := fun hb10 => ?_)
      · replace hb10 := hB.h {} hb10
        refine w0 (k := ?_)
        refine w0 (k := ?_)
        refine pcw (spec := s_in _ _ _) (hent := ent50) (k := ?_)
        refine v0 (k := ?_)
        refine v0 (k := ?_)
        refine b0 (k1 := fun hb11 => ?_) (k0 := fun hb11 => ?_)
        · replace hb11 := hB.h {} hb11
          refine w0 (k := ?_)
          refine w0 (k := ?_)
          refine w0 (k := ?_)
          refine w0 (k := ?_)
          refine v0 (k := ?_)
          refine v0 (k := ?_)
          refine b0 (k1 := fun hb12 => ?_) (k0 := fun hb12 => ?_)
          · replace hb12 := hB.h {} hb12
            refine w0 (k := ?_)
            refine w0 (k := ?_)
            refine w0 (k := ?_)
            refine w0 (k := ?_)
            refine v0 (k := ?_)
            refine v0 (k := ?_)
            refine b0 (k1 := fun hb13 => ?_) (k0 := fun hb13 => ?_)
            · replace hb13 := hB.h {} hb13
              refine w0 (k := ?_)
              refine w0 (k := ?_)
              refine pcw (spec := s_in _ _ _) (hent := ent50) (k := ?_)
              refine v0 (k := ?_)
              refine v0 (k := ?_)
              refine nil0 ?_
              repeat refine gwp_seq ?_
              refine gwp_ret ?_
              repeat (first | refine gthen_ret ?_ | refine gblock_ret ?_ | refine gnoGoto_ret ?_)
              refine fin_ret ?_
              refine fp (hR := ?_)
              first
              | (rw [valid_badK hz (by simp only [badKW]; simp [*]; done)]; rfl)
              | (rw [valid_badR hw (by simp only [badRW]; simp [*]; done)]; rfl)
              | (rw [valid_end ha hr]
                 simp only [PRes.at, GRes.ok.injEq, G.p.injEq, P.bool.injEq, and_true]
                 first | (simp [*]; done) | (symm; simp; omega) | (simp; omega))
            · replace hb13 := hB.h {} hb13
              refine x0 (k := ?_)
              refine x0 (k := ?_)
              refine x0 (k := ?_)
              refine v0 (k := ?_)
              refine v0 (k := ?_)
              refine nil0 ?_
              repeat refine gwp_seq ?_
              refine gwp_ret ?_
              repeat (first | refine gthen_ret ?_ | refine gblock_ret ?_ | refine gnoGoto_ret ?_)
              refine fin_ret ?_
              refine fp (hR := ?_)
              first
              | (rw [valid_badK hz (by simp only [badKW]; simp [*]; done)]; rfl)
              | (rw [valid_badR hw (by simp only [badRW]; simp [*]; done)]; rfl)
              | (rw [valid_end ha hr]
                 simp only [PRes.at, GRes.ok.injEq, G.p.injEq, P.bool.injEq, and_true]
                 first | (simp [*]; done) | (symm; simp; omega) | (simp; omega))
          · replace hb12 := hB.h {} hb12
            refine x0 (k := ?_)
            refine x0 (k := ?_)
            refine x0 (k := ?_)
            refine x0 (k := ?_)
            refine v0 (k := ?_)
            refine v0 (k := ?_)
            refine x0 (k := ?_)
            refine x0 (k := ?_)
            refine x0 (k := ?_)
            refine v0 (k := ?_)
            refine v0 (k := ?_)
            refine nil0 ?_
            repeat refine gwp_seq ?_
            refine gwp_ret ?_
            repeat (first | refine gthen_ret ?_ | refine gblock_ret ?_ | refine gnoGoto_ret ?_)
            refine fin_ret ?_
            refine fp (hR := ?_)
            first
            | (rw [valid_badK hz (by simp only [badKW]; simp [*]; done)]; rfl)
            | (rw [valid_badR hw (by simp only [badRW]; simp [*]; done)]; rfl)
            | (rw [valid_end ha hr]
               simp only [PRes.at, GRes.ok.injEq, G.p.injEq, P.bool.injEq, and_true]
               first | (simp [*]; done) | (symm; simp; omega) | (simp; omega))
        · replace hb11 := hB.h {} hb11
          refine x0 (k := ?_)
          refine x0 (k := ?_)
          refine x0 (k := ?_)
          refine x0 (k := ?_)
          refine v0 (k := ?_)
          refine v0 (k := ?_)
          refine x0 (k := ?_)
          refine x0 (k := ?_)
          refine x0 (k := ?_)
          refine x0 (k := ?_)
          refine v0 (k := ?_)
          refine v0 (k := ?_)
          refine x0 (k := ?_)
          refine x0 (k := ?_)
          refine x0 (k := ?_)
          refine v0 (k := ?_)
          refine v0 (k := ?_)
          refine nil0 ?_
          repeat refine gwp_seq ?_
          refine gwp_ret ?_
          repeat (first | refine gthen_ret ?_ | refine gblock_ret ?_ | refine gnoGoto_ret ?_)
          refine fin_ret ?_
          refine fp (hR := ?_)
          first
          | (rw [valid_badK hz (by simp only [badKW]; simp [*]; done)]; rfl)
          | (rw [valid_badR hw (by simp only [badRW]; simp [*]; done)]; rfl)
          | (rw [valid_end ha hr]
             simp only [PRes.at, GRes.ok.injEq, G.p.injEq, P.bool.injEq, and_true]
             first | (simp [*]; done) | (symm; simp; omega) | (simp; omega))
      · replace hb10 := hB.h {} hb10
        refine x0 (k := ?_)
        refine x0 (k := ?_)
        refine x0 (k := ?_)
        refine v0 (k := ?_)
        refine v0 (k := ?_)
        refine x0 (k := ?_)
        refine x0 (k := ?_)
        refine x0 (k := ?_)
        refine x0 (k := ?_)
        refine v0 (k := ?_)
        refine v0 (k := ?_)
        refine x0 (k := ?_)
        refine x0 (k := ?_)
        refine x0 (k := ?_)
        refine x0 (k := ?_)
        refine v0 (k := ?_)
        refine v0 (k := ?_)
        refine x0 (k := ?_)
        refine x0 (k := ?_)
        refine x0 (k := ?_)
        refine v0 (k := ?_)
        refine v0 (k := ?_)
        refine nil0 ?_
        repeat refine gwp_seq ?_
        refine gwp_ret ?_
        repeat (first | refine gthen_ret ?_ | refine gblock_ret ?_ | refine gnoGoto_ret ?_)
        refine fin_ret ?_
        refine fp (hR := ?_)
        first
        | (rw [valid_badK hz (by simp only [badKW]; simp [*]; done)]; rfl)
        | (rw [valid_badR hw (by simp only [badRW]; simp [*]; done)]; rfl)
        | (rw [valid_end ha hr]
           simp only [PRes.at, GRes.ok.injEq, G.p.injEq, P.bool.injEq, and_true]
           first | (simp [*]; done) | (symm; simp; omega) | (simp; omega))
end Go.Proofs.Ytagdholenfkeaaa

/- The document: the errors of a chain; Holder and Break; and what the statements leave out. -/
namespace Go.Proofs.Ytagdholenfkeaaa
open Go.Gh
set_option maxRecDepth 100000
set_option maxHeartbeats 4000000
structure kWg1 (c : Prop) : Prop where
  h : c := by (first | exact True.intro | (simp only [inI]; omega) | (simp [P.size, pr, pk, all_int, allOne_p, goods_p, allOne, goods, good, G.one, P.one, P.cells] <;> first | omega | assumption | simp_all))
theorem ent48 : Enters Try.prog 48 := Enters.mk Try.func48 (by kernel_rfl) rfl
theorem r_check_t (c : Ch) (hv : c.valid = true) : PSpec Try.prog 48 [.agg [.int .i64 c.pl, .int .i64 c.ps, .list (c.kn.map pk), .list (c.rs.map pr), .int .i64 c.ms], .bool true] (.ok (.int .i64 0)) := by
  refine pspec_of Try.func48 (rfl : Try.f48.body = some _) rfl ?_
  intro E A C hN hL
  replace hN : C.N = 10 := hN
  simp only [Gh.num, List.map_cons, List.map_nil, Nat.reduceAdd]
  have hn := valid_num hv
  repeat refine gwp_seq ?_
  refine gwp_region ?_
  refine n1 120 false (hc := kWg1.h {}) (k := ?_)
  refine v0 (k := ?_)
  refine nil0 ?_
  refine cl [1, 2] (k := ?_)
  repeat refine gwp_seq ?_
  refine gwp_region ?_
  refine v0 (k := ?_)
  refine pc0 (spec := r_chain c (by omega) (by omega)) (hent := ent35) (k := ?_)
  refine rb 6 true (h := by (exact hv)) (k := ?_)
  refine v0 (k := ?_)
  refine nil0 ?_
  repeat refine gwp_seq ?_
  refine cF (k := ?_)
  repeat refine gwp_seq ?_
  refine gwp_skip ?_
  refine cl [1] (k := ?_)
  repeat refine gwp_seq ?_
  refine gwp_region ?_
  refine v0 (k := ?_)
  refine v0 (k := ?_)
  refine nil0 ?_
  repeat refine gwp_seq ?_
  refine cF (k := ?_)
  repeat refine gwp_seq ?_
  refine gwp_skip ?_
  refine cl [] (k := ?_)
  repeat refine gwp_seq ?_
  refine gwp_region ?_
  refine v0 (k := ?_)
  refine nil0 ?_
  repeat refine gwp_seq ?_
  refine gwp_ret ?_
  repeat (first | refine gthen_ret ?_ | refine gblock_ret ?_ | refine gnoGoto_ret ?_)
  refine fin_ret ?_
  refine fp (hR := ?_)
  rfl
theorem r_check_r (c : Ch) (hv : c.valid = true) : PSpec Try.prog 48 [.agg [.int .i64 c.pl, .int .i64 c.ps, .list (c.kn.map pk), .list (c.rs.map pr), .int .i64 c.ms], .bool false] (.ok (.int .i64 2)) := by
  refine pspec_of Try.func48 (rfl : Try.f48.body = some _) rfl ?_
  intro E A C hN hL
  replace hN : C.N = 10 := hN
  simp only [Gh.num, List.map_cons, List.map_nil, Nat.reduceAdd]
  have hn := valid_num hv
  repeat refine gwp_seq ?_
  refine gwp_region ?_
  refine n1 120 false (hc := kWg1.h {}) (k := ?_)
  refine v0 (k := ?_)
  refine nil0 ?_
  refine cl [1, 2] (k := ?_)
  repeat refine gwp_seq ?_
  refine gwp_region ?_
  refine v0 (k := ?_)
  refine pc0 (spec := r_chain c (by omega) (by omega)) (hent := ent35) (k := ?_)
  refine rb 6 true (h := by (exact hv)) (k := ?_)
  refine v0 (k := ?_)
  refine nil0 ?_
  repeat refine gwp_seq ?_
  refine cF (k := ?_)
  repeat refine gwp_seq ?_
  refine gwp_skip ?_
  refine cl [1] (k := ?_)
  repeat refine gwp_seq ?_
  refine gwp_region ?_
  refine v0 (k := ?_)
  refine v0 (k := ?_)
  refine nil0 ?_
  repeat refine gwp_seq ?_
  refine cT (k := ?_)
  repeat refine gwp_seq ?_
  refine gwp_region ?_
  refine v0 (k := ?_)
  refine nil0 ?_
  repeat refine gwp_seq ?_
  refine gwp_ret ?_
  repeat (first | refine gthen_ret ?_ | refine gblock_ret ?_ | refine gnoGoto_ret ?_)
  refine fin_ret ?_
  refine fp (hR := ?_)
  rfl
theorem r_check_f (c : Ch) (h1 : c.kn.length ≤ 1048576) (h2 : c.rs.length ≤ 1048576) (hv : c.valid = false) (b : Bool) : PSpec Try.prog 48 [.agg [.int .i64 c.pl, .int .i64 c.ps, .list (c.kn.map pk), .list (c.rs.map pr), .int .i64 c.ms], .bool b] (.ok (.int .i64 1)) := by
  refine pspec_of Try.func48 (rfl : Try.f48.body = some _) rfl ?_
  intro E A C hN hL
  replace hN : C.N = 10 := hN
  simp only [Gh.num, List.map_cons, List.map_nil, Nat.reduceAdd]
  repeat refine gwp_seq ?_
  refine gwp_region ?_
  refine n1 120 false (hc := kWg1.h {}) (k := ?_)
  refine v0 (k := ?_)
  refine nil0 ?_
  refine cl [1, 2] (k := ?_)
  repeat refine gwp_seq ?_
  refine gwp_region ?_
  refine v0 (k := ?_)
  refine pc0 (spec := r_chain c (by omega) (by omega)) (hent := ent35) (k := ?_)
  refine rb 6 false (h := by (exact hv)) (k := ?_)
  refine v0 (k := ?_)
  refine nil0 ?_
  repeat refine gwp_seq ?_
  refine cT (k := ?_)
  repeat refine gwp_seq ?_
  refine gwp_region ?_
  refine v0 (k := ?_)
  refine nil0 ?_
  repeat refine gwp_seq ?_
  refine gwp_ret ?_
  repeat (first | refine gthen_ret ?_ | refine gblock_ret ?_ | refine gnoGoto_ret ?_)
  refine fin_ret ?_
  refine fp (hR := ?_)
  rfl
theorem ent16 : Enters Try.prog 16 := Enters.mk Try.func16 (by kernel_rfl) rfl
theorem r_hold_t (c : Ch) (hv : c.valid = true) (x : Int) (n : Nat) (hq : holdQ c x (n : Nat) = true) : PSpec Try.prog 16 [.agg [.int .i64 c.pl, .int .i64 c.ps, .list (c.kn.map pk), .list (c.rs.map pr), .int .i64 c.ms], .int .i64 x, .int .i64 (n : Nat)] (.ok (.tuple [.int .i64 (holN x c.rs n), .int .i64 0])) := by
  refine pspec_of Try.func16 (rfl : Try.f16.body = some _) rfl ?_
  intro E A C hN hL
  replace hN : C.N = 28 := hN
  simp only [Gh.num, List.map_cons, List.map_nil, Nat.reduceAdd]
  have hn := valid_num hv
  have hdt : ∀ (i : Decidable True), @decide True i = true := fun i => decide_eq_true trivial
  have hdf : ∀ (i : Decidable False), @decide False i = false := fun i => decide_eq_false id
  have hiw := inW_eq (m := c.pl) (by omega) x
  simp only [holdQ, Bool.and_eq_true] at hq
  obtain ⟨hq1, hq2, hq3⟩ := hq
  have hq4 := of_decide_eq_true hq3
  rw [hq1] at hiw
  repeat refine gwp_seq ?_
  refine gwp_region ?_
  refine n1 130 false (hc := kWg1.h {}) (k := ?_)
  refine v0 (k := ?_)
  refine v0 (k := ?_)
  refine nil0 ?_
  refine cl [1, 2, 3] (k := ?_)
  repeat refine gwp_seq ?_
  refine rd ?_
  refine d0 0 (k := ?_)
  refine d0 1 (k := ?_)
  refine d0 2 (k := ?_)
  refine dpc0 3 (spec := r_plateW c x) (hent := ent49) (k := ?_)
  refine d0 4 (k := ?_)
  refine dw0 5 (k := ?_)
  refine dw0 6 (k := ?_)
  refine dw0 7 (k := ?_)
  refine dw0 8 (k := ?_)
  refine dpcw 9 (spec := s_in _ _ _) (hent := ent50) (k := ?_)
  refine d0 10 (k := ?_)
  refine dpc0 11 (spec := r_check_t c hv) (hent := ent48) (k := ?_)
  refine d0 12 (k := ?_)
  refine dz 13 [0, 0, 0, 6, 14, 30, 30, 94, 222, 510, 1022, 2047, 4095] (h := ?_)
  refine de 13 (h := ?_)
  refine cl [1, 2, 3, 8] (k := ?_)
  repeat refine gwp_seq ?_
  refine gwp_region ?_
  refine v0 (k := ?_)
  refine v0 (k := ?_)
  refine rb 22 false (h := by (first | rfl | decide)) (k := ?_)
  refine nil0 ?_
  repeat refine gwp_seq ?_
  refine cF (k := ?_)
  repeat refine gwp_seq ?_
  refine gwp_skip ?_
  refine cl [1, 2, 3] (k := ?_)
  repeat refine gwp_seq ?_
  refine gwp_region ?_
  refine v0 (k := ?_)
  refine v0 (k := ?_)
  refine v0 (k := ?_)
  refine pc0 (spec := r_holder c x n (by omega) (by omega)) (hent := ent51) (k := ?_)
  refine v0 (k := ?_)
  refine v0 (k := ?_)
  refine nil0 ?_
  repeat refine gwp_seq ?_
  refine gwp_ret ?_
  repeat (first | refine gthen_ret ?_ | refine gblock_ret ?_ | refine gnoGoto_ret ?_)
  refine fin_ret ?_
  refine fp2 (hR := ?_)
  rfl
theorem r_hold_r (c : Ch) (hv : c.valid = true) (x w : Int) (hq : holdQ c x w = false) : PSpec Try.prog 16 [.agg [.int .i64 c.pl, .int .i64 c.ps, .list (c.kn.map pk), .list (c.rs.map pr), .int .i64 c.ms], .int .i64 x, .int .i64 w] (.ok (.tuple [.int .i64 0, .int .i64 2])) := by
  refine pspec_of Try.func16 (rfl : Try.f16.body = some _) rfl ?_
  intro E A C hN hL
  replace hN : C.N = 28 := hN
  simp only [Gh.num, List.map_cons, List.map_nil, Nat.reduceAdd]
  have hn := valid_num hv
  have hdt : ∀ (i : Decidable True), @decide True i = true := fun i => decide_eq_true trivial
  have hdf : ∀ (i : Decidable False), @decide False i = false := fun i => decide_eq_false id
  have hiw := inW_eq (m := c.pl) (by omega) x
  simp only [holdQ] at hq
  repeat refine gwp_seq ?_
  refine gwp_region ?_
  refine n1 130 false (hc := kWg1.h {}) (k := ?_)
  refine v0 (k := ?_)
  refine v0 (k := ?_)
  refine nil0 ?_
  refine cl [1, 2, 3] (k := ?_)
  repeat refine gwp_seq ?_
  rcases bb3 (inQ x c.pl) (decide (0 ≤ w) && decide (w ≤ (c.rs.length : Int))) with hq1 | ⟨hq1, hq2⟩ | ⟨hq1, hq2⟩
  · rw [hq1] at hiw
    repeat refine gwp_seq ?_
    refine rd ?_
    refine d0 0 (k := ?_)
    refine d0 1 (k := ?_)
    refine d0 2 (k := ?_)
    refine dpc0 3 (spec := r_plateW c x) (hent := ent49) (k := ?_)
    refine d0 4 (k := ?_)
    refine dx0 5 (k := ?_)
    refine dx0 6 (k := ?_)
    refine dx0 7 (k := ?_)
    refine dx0 8 (k := ?_)
    refine dx0 9 (k := ?_)
    refine d0 10 (k := ?_)
    refine dpc0 11 (spec := r_check_r c hv) (hent := ent48) (k := ?_)
    refine d0 12 (k := ?_)
    refine dz 13 [0, 0, 0, 6, 14, 30, 30, 94, 222, 510, 1022, 2047, 4095] (h := ?_)
    refine de 13 (h := ?_)
    refine cl [1, 2, 3, 8] (k := ?_)
    repeat refine gwp_seq ?_
    refine gwp_region ?_
    refine v0 (k := ?_)
    refine v0 (k := ?_)
    refine rb 22 true (h := by (first | rfl | decide)) (k := ?_)
    refine nil0 ?_
    repeat refine gwp_seq ?_
    refine cT (k := ?_)
    repeat refine gwp_seq ?_
    refine gwp_region ?_
    refine v0 (k := ?_)
    refine v0 (k := ?_)
    refine v0 (k := ?_)
    refine nil0 ?_
    repeat refine gwp_seq ?_
    refine gwp_ret ?_
    repeat (first | refine gthen_ret ?_ | refine gblock_ret ?_ | refine gnoGoto_ret ?_)
    refine fin_ret ?_
    refine fp2 (hR := ?_)
    rfl
  · rw [hq1] at hiw
    repeat refine gwp_seq ?_
    refine rd ?_
    refine d0 0 (k := ?_)
    refine d0 1 (k := ?_)
    refine d0 2 (k := ?_)
    refine dpc0 3 (spec := r_plateW c x) (hent := ent49) (k := ?_)
    refine d0 4 (k := ?_)
    refine dw0 5 (k := ?_)
    refine dw0 6 (k := ?_)
    refine dw0 7 (k := ?_)
    refine dw0 8 (k := ?_)
    refine dpcw 9 (spec := s_in _ _ _) (hent := ent50) (k := ?_)
    refine d0 10 (k := ?_)
    refine dpc0 11 (spec := r_check_r c hv) (hent := ent48) (k := ?_)
    refine d0 12 (k := ?_)
    refine dz 13 [0, 0, 0, 6, 14, 30, 30, 94, 222, 510, 1022, 2047, 4095] (h := ?_)
    refine de 13 (h := ?_)
    refine cl [1, 2, 3, 8] (k := ?_)
    repeat refine gwp_seq ?_
    refine gwp_region ?_
    refine v0 (k := ?_)
    refine v0 (k := ?_)
    refine rb 22 true (h := by (first | rfl | decide)) (k := ?_)
    refine nil0 ?_
    repeat refine gwp_seq ?_
    refine cT (k := ?_)
    repeat refine gwp_seq ?_
    refine gwp_region ?_
    refine v0 (k := ?_)
    refine v0 (k := ?_)
    refine v0 (k := ?_)
    refine nil0 ?_
    repeat refine gwp_seq ?_
    refine gwp_ret ?_
    repeat (first | refine gthen_ret ?_ | refine gblock_ret ?_ | refine gnoGoto_ret ?_)
    refine fin_ret ?_
    refine fp2 (hR := ?_)
    rfl
  · exact absurd hq (by rw [hq1, hq2]; simp)
theorem r_hold_f (c : Ch) (h1 : c.kn.length ≤ 1048576) (h2 : c.rs.length ≤ 1048576) (hv : c.valid = false) (x w : Int) : PSpec Try.prog 16 [.agg [.int .i64 c.pl, .int .i64 c.ps, .list (c.kn.map pk), .list (c.rs.map pr), .int .i64 c.ms], .int .i64 x, .int .i64 w] (.ok (.tuple [.int .i64 0, .int .i64 1])) := by
  refine pspec_of Try.func16 (rfl : Try.f16.body = some _) rfl ?_
  intro E A C hN hL
  replace hN : C.N = 28 := hN
  simp only [Gh.num, List.map_cons, List.map_nil, Nat.reduceAdd]
  have hdt : ∀ (i : Decidable True), @decide True i = true := fun i => decide_eq_true trivial
  have hdf : ∀ (i : Decidable False), @decide False i = false := fun i => decide_eq_false id
  repeat refine gwp_seq ?_
  refine gwp_region ?_
  refine n1 130 false (hc := kWg1.h {}) (k := ?_)
  refine v0 (k := ?_)
  refine v0 (k := ?_)
  refine nil0 ?_
  refine cl [1, 2, 3] (k := ?_)
  repeat refine gwp_seq ?_
  refine rd ?_
  refine d0 0 (k := ?_)
  refine d0 1 (k := ?_)
  refine d0 2 (k := ?_)
  refine dpc0 3 (spec := r_plateW c x) (hent := ent49) (k := ?_)
  refine d0 4 (k := ?_)
  refine db0 5 13 (k1 := fun hb1 => ?_) (k0 := fun hb1 => ?_)
  · replace hb1 := hB.h {} hb1
    refine dw0 5 (k := ?_)
    refine dw0 6 (k := ?_)
    refine dw0 7 (k := ?_)
    refine dw0 8 (k := ?_)
    refine dpcw 9 (spec := s_in _ _ _) (hent := ent50) (k := ?_)
    refine d0 10 (k := ?_)
    refine dpc0 11 (spec := r_check_f c h1 h2 hv _) (hent := ent48) (k := ?_)
    refine d0 12 (k := ?_)
    refine dz 13 [0, 0, 0, 6, 14, 30, 30, 94, 222, 510, 1022, 2047, 4095] (h := ?_)
    refine de 13 (h := ?_)
    refine cl [1, 2, 3, 8] (k := ?_)
    repeat refine gwp_seq ?_
    refine gwp_region ?_
    refine v0 (k := ?_)
    refine v0 (k := ?_)
    refine rb 22 true (h := by (first | rfl | decide)) (k := ?_)
    refine nil0 ?_
    repeat refine gwp_seq ?_
    refine cT (k := ?_)
    repeat refine gwp_seq ?_
    refine gwp_region ?_
    refine v0 (k := ?_)
    refine v0 (k := ?_)
    refine v0 (k := ?_)
    refine nil0 ?_
    repeat refine gwp_seq ?_
    refine gwp_ret ?_
    repeat (first | refine gthen_ret ?_ | refine gblock_ret ?_ | refine gnoGoto_ret ?_)
    refine fin_ret ?_
    refine fp2 (hR := ?_)
    rfl
  · replace hb1 := hB.h {} hb1
    refine dx0 5 (k := ?_)
    refine dx0 6 (k := ?_)
    refine dx0 7 (k := ?_)
    refine dx0 8 (k := ?_)
    refine dx0 9 (k := ?_)
    refine d0 10 (k := ?_)
    refine dpc0 11 (spec := r_check_f c h1 h2 hv _) (hent := ent48) (k := ?_)
    refine d0 12 (k := ?_)
    refine dz 13 [0, 0, 0, 6, 14, 30, 30, 94, 222, 510, 1022, 2047, 4095] (h := ?_)
    refine de 13 (h := ?_)
    refine cl [1, 2, 3, 8] (k := ?_)
    repeat refine gwp_seq ?_
    refine gwp_region ?_
    refine v0 (k := ?_)
    refine v0 (k := ?_)
    refine rb 22 true (h := by (first | rfl | decide)) (k := ?_)
    refine nil0 ?_
    repeat refine gwp_seq ?_
    refine cT (k := ?_)
    repeat refine gwp_seq ?_
    refine gwp_region ?_
    refine v0 (k := ?_)
    refine v0 (k := ?_)
    refine v0 (k := ?_)
    refine nil0 ?_
    repeat refine gwp_seq ?_
    refine gwp_ret ?_
    repeat (first | refine gthen_ret ?_ | refine gblock_ret ?_ | refine gnoGoto_ret ?_)
    refine fin_ret ?_
    refine fp2 (hR := ?_)
    rfl
theorem r_plateT (c : Ch) (hv : c.valid = true) (x : Int) {b : Bool} (h : inQ x c.pl = b) : PSpec Try.prog 49 [.agg [.int .i64 c.pl, .int .i64 c.ps, .list (c.kn.map pk), .list (c.rs.map pr), .int .i64 c.ms], .int .i64 x] (.ok (.bool b)) := by
  have hn := valid_num hv
  have := r_plateW c x
  rwa [inW_eq (m := c.pl) (by omega) x, h] at this
end Go.Proofs.Ytagdholenfkeaaa

/- The document's states after the records of a plate: what they come to. No program in sight. -/
namespace Go.Proofs.Ytagdholenfkeaaa
/-- From holder to holder: how many unwritten times. -/
def totN (f : Mx) (h : Nat) : List (Nat × Nat) → Int
  | [] => 0
  | z :: l => f h z.1 + totN f z.2 l
def lastN (h : Nat) : List (Nat × Nat) → Nat
  | [] => h
  | z :: l => lastN z.2 l
theorem totN_nn {f : Mx} (hf : MOk f) : ∀ (l : List (Nat × Nat)) (h : Nat), 0 ≤ totN f h l
  | [], _ => by simp [totN]
  | z :: l, h => by have := totN_nn hf l z.2; have := hf.nn h z.1; simp only [totN]; omega
/-- One record. -/
def recS (e : Nat → Nat → Bool) (who P : Nat) (g : Mx) (z : Nat × Nat) : Mx := sprS e who P (begV z.2 who (g z.1 0) (g z.1 1)) (2 * P)
def aftG (e : Nat → Nat → Bool) (who P : Nat) (l : List (Nat × Nat)) : Mx := l.foldl (recS e who P) (sprS e who P (begV 0 who 0 1000) (2 * P))
theorem aftG_snoc (e : Nat → Nat → Bool) (who P : Nat) (l : List (Nat × Nat)) (z : Nat × Nat) : aftG e who P (l ++ [z]) = recS e who P (aftG e who P l) z := by simp [aftG]
theorem aftG_bd {e : Nat → Nat → Bool} {who P : Nat} (l : List (Nat × Nat)) : Bd (aftG e who P l) := by
  have key : ∀ (l : List (Nat × Nat)) (g : Mx), Bd g → Bd (l.foldl (recS e who P) g) := by
    intro l
    induction l with
    | nil => intro g hg; exact hg
    | cons z l ih => intro g hg; exact ih _ ((begV_bd (hg z.1 0) (hg z.1 1)).spr _)
  exact key l _ ((begV_bd (by omega) (by omega)).spr _)
/-- What a state comes to: the holder, and the least numbers without and with the person. -/
structure AB where
  h : Nat
  A : Int
  B : Int
def mkAB (who h : Nat) (A B : Int) : AB := if h = who then ⟨h, 1000, min A B⟩ else ⟨h, A, B⟩
def recAB (e eb : Nat → Nat → Bool) (who : Nat) (q : AB) (z : Nat × Nat) : AB := mkAB who z.2 (Fm e eb who q.h q.A q.B z.1 0) (Fm e eb who q.h q.A q.B z.1 1)
structure AB.Ok (who P : Nat) (q : AB) : Prop where
  h : q.h < P
  A : 0 ≤ q.A ∧ q.A ≤ 1000
  B : 0 ≤ q.B ∧ q.B ≤ 1000
  w : q.h = who → q.A = 1000
theorem mkAB_ok {who P h : Nat} {A B : Int} (hh : h < P) (hA : 0 ≤ A ∧ A ≤ 1000) (hB : 0 ≤ B ∧ B ≤ 1000) : (mkAB who h A B).Ok who P := by
  unfold mkAB
  split
  · exact ⟨hh, by simp only; omega, by simp only; omega, fun _ => rfl⟩
  · rename_i hne
    exact ⟨hh, hA, hB, fun e => absurd e hne⟩
theorem begV_mk (h who : Nat) (A B : Int) : begV h who A B = ini1 (mkAB who h A B).h (mkAB who h A B).A (mkAB who h A B).B := by
  unfold begV mkAB
  split <;> rfl
section
variable {e eb : Nat → Nat → Bool} {who P : Nat} (he : ∀ a b, e a b = true → a < P ∧ b < P) (hb : ∀ a b, eb a b = true ↔ e a b = true ∧ a ≠ who ∧ b ≠ who) (hP : P ≤ 8) (hw : who < P)
include he hb hP hw
omit he hb hP hw in
theorem Fm_bd {q : AB} (hq : q.Ok who P) {x k : Nat} (hk : k < 2) : 0 ≤ Fm e eb who q.h q.A q.B x k ∧ Fm e eb who q.h q.A q.B x k ≤ 1000 := by
  have n1 := (D_ok e).nn q.h x; have n2 := (D_ok e).nn q.h who; have n3 := (D_ok e).nn who x; have n4 := (D_ok eb).nn q.h x
  have := hq.A; have := hq.B
  rcases (show k = 0 ∨ k = 1 by omega) with rfl | rfl
  · simp only [Fm, reduceIte]; omega
  · simp only [Fm, Nat.one_ne_zero, reduceIte]; omega
theorem mk_spr {h : Nat} {A B : Int} (hh : h < P) (hA : 0 ≤ A ∧ A ≤ 1000) (hB : 0 ≤ B ∧ B ≤ 1000) {x k : Nat} (hk : k < 2) : sprS e who P (begV h who A B) (2 * P) x k = Fm e eb who (mkAB who h A B).h (mkAB who h A B).A (mkAB who h A B).B x k := by
  have hq := mkAB_ok (who := who) hh hA hB
  rw [begV_mk]
  exact spr_eq he hb hP hw hq.h hq.A hq.B hq.w hk
theorem fold_eq : ∀ (l : List (Nat × Nat)) (g : Mx) (q : AB), (∀ z ∈ l, z.1 < P ∧ z.2 < P) → q.Ok who P → (∀ x k, k < 2 → g x k = Fm e eb who q.h q.A q.B x k) →
    (l.foldl (recAB e eb who) q).Ok who P ∧ ∀ x k, k < 2 → l.foldl (recS e who P) g x k = Fm e eb who (l.foldl (recAB e eb who) q).h (l.foldl (recAB e eb who) q).A (l.foldl (recAB e eb who) q).B x k
  | [], g, q, _, hq, hg => ⟨hq, hg⟩
  | z :: l, g, q, hl, hq, hg => by
    have hz := hl z (by simp)
    have b0 := Fm_bd (e := e) (eb := eb) hq (x := z.1) (k := 0) (by omega)
    have b1 := Fm_bd (e := e) (eb := eb) hq (x := z.1) (k := 1) (by omega)
    refine fold_eq l (recS e who P g z) (recAB e eb who q z) (fun y hy => hl y (List.mem_cons_of_mem _ hy)) (mkAB_ok hz.2 b0 b1) fun x k hk => ?_
    rw [recS, hg z.1 0 (by omega), hg z.1 1 (by omega)]
    exact mk_spr he hb hP hw hz.2 b0 b1 hk
def endAB (e eb : Nat → Nat → Bool) (who : Nat) (l : List (Nat × Nat)) : AB := l.foldl (recAB e eb who) (mkAB who 0 0 1000)
theorem aft_eq {l : List (Nat × Nat)} (hl : ∀ z ∈ l, z.1 < P ∧ z.2 < P) : (endAB e eb who l).Ok who P ∧ ∀ x k, k < 2 → aftG e who P l x k = Fm e eb who (endAB e eb who l).h (endAB e eb who l).A (endAB e eb who l).B x k :=
  fold_eq he hb hP hw l _ _ hl (mkAB_ok (by omega) (by omega) (by omega)) fun x k hk => mk_spr he hb hP hw (by omega) (by omega) (by omega) hk
omit he hb hP hw in
theorem fold_h : ∀ (l : List (Nat × Nat)) (q : AB), (l.foldl (recAB e eb who) q).h = lastN q.h l
  | [], q => rfl
  | z :: l, q => by
    rw [List.foldl_cons, fold_h l, lastN]
    congr 1
    simp only [recAB, mkAB]
    split <;> rfl
omit hw in
/-- Past a person, or not: the shortest way. -/
theorem past {h f : Nat} (hh : h < P) (hf : f < P) (hne : h ≠ who) : D eb h f = D e h f ∨ D e h who + D e who f ≤ D e h f := by
  have he8 : ∀ a b, e a b = true → a < 8 ∧ b < 8 := fun a b x => by have := he a b x; omega
  have hbe : ∀ a b, eb a b = true → a < 8 ∧ b < 8 := fun a b x => he8 a b ((hb a b).1 x).1
  have hmono := D_mono (e := eb) he8 (fun i j q => ((hb i j).1 q).1) h f
  by_cases hl : D e h f < NEV
  · obtain ⟨n, hn, hwk⟩ := D_sound hl
    rcases first_hit hb n h f hne hwk with h1 | ⟨m, m', a, hm, g1, g2, g3⟩
    · have := D_walk hbe h1
      exact .inl (by omega)
    · have h1 := D_walk he8 ((Wk.mono (fun i j q => ((hb i j).1 q).1) g1).snoc g2)
      have h2 := D_walk he8 g3
      exact .inr (by omega)
  · have h1 := (D_ok e).le h f
    have h2 := (D_ok eb).le h f
    exact .inl (by omega)
omit he hP hw in
theorem into {h : Nat} (hne : h ≠ who) : D eb h who = NEV := by
  by_cases hl : D eb h who < NEV
  · obtain ⟨n, _, hwk⟩ := D_sound hl
    cases n with
    | zero => exact absurd hwk hne
    | succ n =>
      exfalso
      have : ∀ n i, ¬ Wk eb (n + 1) i who := fun n => by
        induction n with
        | zero => rintro i ⟨j, hj, hk⟩; have hk : j = who := hk; exact ((hb i j).1 hj).2.2 hk
        | succ n ih => rintro i ⟨j, hj, hk⟩; exact ih j hk
      exact this n h hwk
  · have := (D_ok eb).le h who; omega
end
end Go.Proofs.Ytagdholenfkeaaa

/- The document: After, needs, Needs. -/
namespace Go.Proofs.Ytagdholenfkeaaa
open Go.Gh
set_option maxRecDepth 100000
set_option maxHeartbeats 4000000
structure kWk1 (c : Prop) : Prop where
  h : c := by (first | exact True.intro | omega | (simp only [List.length_map, stt_len, G.one, P.one, good, inI, Nat.add_zero, Nat.mul_one]; omega) | (simp [stt_len, G.one, P.one, good, goods, inI, allOne]; done) | (simp [stt_len, G.one, P.one, good, goods, inI, allOne]; omega) | (simp [stt_len, allOne_p, goods_p, G.one, P.one, good, goods, inI, allOne, stt]; done))
structure kWk2 (c : Prop) : Prop where
  h : c := by (first | exact True.intro | (simp only [inI]; omega) | (simp [P.size, pr, pk, all_int, allOne_p, goods_p, allOne, goods, good, G.one, P.one, P.cells] <;> first | omega | assumption | simp_all))
/-- From and to, of records. -/
def ftL (l : List (Nat × Rc)) : List (Nat × Nat) := l.map fun z => (z.2.f.toNat, z.2.t.toNat)
theorem ftL_snoc (l : List (Nat × Rc)) (k : Nat) (p : Int) (a b : Nat) : ftL (l ++ [(k, ⟨p, a, b⟩)]) = ftL l ++ [(a, b)] := by simp [ftL]
/-- The least number of a state. -/
def minS (S : Mx) : Nat → Int
  | 0 => 1000
  | k + 1 => min (min (minS S k) (S k 0)) (S k 1)
theorem minS_in {S : Mx} (h : Bd S) : ∀ k, 0 ≤ minS S k ∧ minS S k ≤ 1000
  | 0 => by simp [minS]
  | k + 1 => by
    have := minS_in h k
    have := h k 0; have := h k 1
    simp only [minS]; omega
def selC (c : Ch) (p : Int) (set : Nat) : List (Nat × Nat) := ftL (selN p set c.rs c.rs.length)
def nedV (c : Ch) (p : Int) (set : Nat) : Int := minS (aftG (kE c.kn) 0 c.ps.toNat (selC c p set)) c.ps.toNat
theorem nedV_in (c : Ch) (p : Int) (set : Nat) : 0 ≤ nedV c p set ∧ nedV c p set ≤ 1000 := minS_in (aftG_bd _) _
def nedR (c : Ch) (set : Nat) (but : Int) : Nat → Int
  | 0 => 0
  | k + 1 => if ¬ ((k : Nat) : Int) = but then nedR c set but k + nedV c (k : Nat) set else nedR c set but k
theorem nedR_in (c : Ch) (set : Nat) (but : Int) : ∀ k, 0 ≤ nedR c set but k ∧ nedR c set but k ≤ 1000 * k
  | 0 => by simp [nedR]
  | k + 1 => by
    have := nedR_in c set but k
    have := nedV_in c (k : Nat) set
    simp only [nedR]; split <;> omega
theorem ent84 : Enters Try.prog 84 := Enters.mk Try.func84 (by kernel_rfl) rfl
theorem r_after (c : Ch) (hv : c.valid = true) (p : Int) (set : Nat) (hset : set < 4096) (who : Nat) (hw : who < 8) : PSpec Try.prog 84 [.agg [.int .i64 c.pl, .int .i64 c.ps, .list (c.kn.map pk), .list (c.rs.map pr), .int .i64 c.ms], .int .i64 p, .int .i64 (set : Nat), .int .i64 (who : Nat)] (.ok (.agg (stt (aftG (kE c.kn) who c.ps.toNat (ftL (selN p set c.rs c.rs.length)))))) := by
  refine pspec_of Try.func84 (rfl : Try.f84.body = some _) rfl ?_
  intro E A C hN hL
  replace hN : C.N = 56 := hN
  simp only [Gh.num, List.map_cons, List.map_nil, Nat.reduceAdd]
  have hn := valid_num hv
  have hpk : ∀ k : Kw, pk k = P.agg [.int .i64 k.a, .int .i64 k.b] := fun _ => rfl
  have hpr : ∀ r : Rc, pr r = P.agg [.int .i64 r.p, .int .i64 r.f, .int .i64 r.t] := fun _ => rfl
  repeat refine gwp_seq ?_
  refine gwp_region ?_
  refine n1 140 false (hc := kWk1.h {}) (k := ?_)
  refine n1 180 false (hc := kWk1.h {}) (k := ?_)
  refine nil0 ?_
  refine cl [1, 2, 3, 4, 8] (k := ?_)
  repeat refine gwp_seq ?_
  rw [show ([.p (.int .i64 0), .p (.int .i64 0), .p (.int .i64 0), .p (.int .i64 0), .p (.int .i64 0), .p (.int .i64 0), .p (.int .i64 0), .p (.int .i64 0), .p (.int .i64 0), .p (.int .i64 0), .p (.int .i64 0), .p (.int .i64 0), .p (.int .i64 0), .p (.int .i64 0), .p (.int .i64 0), .p (.int .i64 0)] : List G) = ((stt (fun _ _ => 0)).map G.p) from rfl]
  have htk := takeS
  have hdr := dropS
  have hone := oneS
  have hlen := stt_len
  refine rd ?_
  refine d0 0 (k := ?_)
  refine d0 1 (k := ?_)
  refine dpc0 2 (spec := r_begin 0 (by omega) who 0 1000 (by omega) (by omega)) (hent := ent105) (k := ?_)
  refine d0 3 (k := ?_)
  refine dpc0 4 (spec := r_spread c hv (begV 0 who 0 1000) (begV_bd (by omega) (by omega)) who hw) (hent := ent104) (k := ?_)
  refine dn1 5 190 false (hc := kWk1.h {}) (k := ?_)
  refine ds1 6 (hc := kWk1.h {}) (k := ?_)
  refine dz 7 [0, 0, 2, 0, 15, 0, 63] (h := ?_)
  refine de 7 (h := ?_)
  refine cl [1, 2, 3, 4, 8, 9] (k := ?_)
  repeat refine gwp_seq ?_
  refine gwp_region ?_
  refine v0 (k := ?_)
  refine nil0 ?_
  refine cl [1, 2, 3, 4, 8, 9, 10] (k := ?_)
  repeat refine gwp_seq ?_
  refine gwp_block ?_
  repeat refine gwp_seq ?_
  refine gc_loop (fun mz σ => ∃ k : Nat, (k ≤ c.rs.length) ∧ mz = c.rs.length - k ∧ σ = (sg [(1, .p (.int .i64 p)), (2, .p (.int .i64 (set : Nat))), (3, .p (.int .i64 (who : Nat))), (4, .ref 140 0), (8, .ref 180 0), (9, .ref 190 0), (10, .p (.int .i64 (k : Nat)))] [(140, .cells [.p (.int .i64 c.pl), .p (.int .i64 c.ps), .p (.list (c.kn.map pk)), .p (.list (c.rs.map pr)), .p (.int .i64 c.ms)] 0), (180, .cells ((stt (fun _ _ => 0)).map G.p) 0), (190, .cells ((stt (aftG (kE c.kn) who c.ps.toNat (ftL (selN p set c.rs k)))).map G.p) 0)] A [] : Sg E)) ?_ (fun mz σ hI => ?_)
  · refine lbeg [1, 2, 3, 4, 8, 9, 10] (hV := ?_)
    exact ⟨_, 0, by omega, rfl, rfl⟩
  obtain ⟨k, hk, hnn, rfl⟩ := hI
  repeat refine gwp_seq ?_
  refine gwp_region ?_
  refine v0 (k := ?_)
  refine v0 (k := ?_)
  refine v0 (k := ?_)
  refine v0 (k := ?_)
  refine v0 (k := ?_)
  refine nil0 ?_
  repeat refine gwp_seq ?_
  refine cB (k1 := fun hb1 => ?_) (k0 := fun hb1 => ?_)
  · replace hb1 := hB.h {} hb1
    try rw [eqI] at hb1
    repeat refine gwp_seq ?_
    refine gwp_skip ?_
    refine cl [1, 2, 3, 4, 8, 9, 10] (k := ?_)
    repeat refine gwp_seq ?_
    refine gwp_block ?_
    repeat refine gwp_seq ?_
    obtain ⟨r, hr⟩ := getE (l := c.rs) (k := k) (by omega)
    have hri := valid_in hv r (List.mem_of_getElem? hr)
    have hkl := (List.getElem?_eq_some_iff.1 hr).1
    obtain ⟨rp, rf, rt⟩ := r
    simp only at hri
    obtain ⟨a, rfl⟩ : ∃ a : Nat, rf = a := ⟨rf.toNat, by omega⟩
    obtain ⟨b, rfl⟩ : ∃ b : Nat, rt = b := ⟨rt.toNat, by omega⟩
    have ha8 : a < 8 := by omega
    have hb8 : b < 8 := by omega
    refine gwp_region ?_
    refine v0 (k := ?_)
    refine v0 (k := ?_)
    refine v0 (k := ?_)
    refine v1 (hc := kWk2.h {}) (k := ?_)
    refine v0 (k := ?_)
    refine n1 210 false (hc := kWk1.h {}) (k := ?_)
    refine s1 (hc := kWk1.h {}) (k := ?_)
    refine nil0 ?_
    refine cl [1, 2, 3, 4, 8, 9, 10, 11] (k := ?_)
    repeat refine gwp_seq ?_
    refine gwp_region ?_
    refine v0 (k := ?_)
    refine v0 (k := ?_)
    refine v0 (k := ?_)
    refine v0 (k := ?_)
    refine v0 (k := ?_)
    refine b0 (k1 := fun hb2 => ?_) (k0 := fun hb2 => ?_)
    · replace hb2 := hB.h {} hb2
      try rw [eqI] at hb2
      refine w0 (k := ?_)
      refine w0 (k := ?_)
      refine pcw (spec := r_has set k (by omega) (by omega)) (hent := ent90) (k := ?_)
      refine v0 (k := ?_)
      refine nil0 ?_
      repeat refine gwp_seq ?_
      refine cB (k1 := fun hb3 => ?_) (k0 := fun hb3 => ?_)
      · replace hb3 := hB.h {} hb3
        try rw [eqI] at hb3
        repeat refine gwp_seq ?_
        obtain ⟨S, hS⟩ : ∃ S, aftG (kE c.kn) who c.ps.toNat (ftL (selN p set c.rs k)) = S := ⟨_, rfl⟩
        rw [hS]
        have hBd : Bd S := hS ▸ aftG_bd _
        have g1 := stt_get S ha8 (y := 0) (by omega)
        rw [Nat.add_zero] at g1
        have g2 := stt_get S ha8 (y := 1) (by omega)
        refine rd ?_
        refine d0 0 (k := ?_)
        refine d0 1 (k := ?_)
        refine d0 2 (k := ?_)
        refine d0 3 (k := ?_)
        refine d0 4 (k := ?_)
        refine d0 5 (k := ?_)
        refine d1 6 (hc := kWk1.h {}) (k := ?_)
        refine d1 7 (hc := kWk1.h {}) (k := ?_)
        refine d0 8 (k := ?_)
        refine d0 9 (k := ?_)
        refine d0 10 (k := ?_)
        refine d1 11 (hc := kWk1.h {}) (k := ?_)
        refine d1 12 (hc := kWk1.h {}) (k := ?_)
        refine d0 13 (k := ?_)
        refine dpc0 14 (spec := r_begin b hb8 who (S a 0) (S a 1) (hBd a 0) (hBd a 1)) (hent := ent105) (k := ?_)
        refine d0 15 (k := ?_)
        refine dpc0 16 (spec := r_spread c hv (begV b who (S a 0) (S a 1)) (begV_bd (hBd a 0) (hBd a 1)) who hw) (hent := ent104) (k := ?_)
        refine ds1 17 (hc := kWk1.h {}) (k := ?_)
        refine dz 18 [0, 0, 2, 0, 0, 16, 48, 112, 240, 0, 512, 1536, 3584, 7680, 16382, 0, 65535, 131071] (h := ?_)
        refine de 18 (h := ?_)
        refine cl [1, 2, 3, 4, 8, 9, 10] (k := ?_)
        repeat refine gwp_seq ?_
        refine gwp_region ?_
        refine v0 (k := ?_)
        refine v1 (hc := kWk1.h {}) (k := ?_)
        refine v0 (k := ?_)
        refine nil0 ?_
        refine lend [1, 2, 3, 4, 8, 9, 10] (h := ?_) (hV := ?_) (n' := c.rs.length - (k + 1))
        · omega
        first
        | exact ⟨k + 1, by omega, rfl, sgE rfl (by rw [sel_skip1 hr (by simp only; omega)])⟩
        | exact ⟨k + 1, by omega, rfl, sgE rfl (by rw [sel_skip2 hr (by assumption)])⟩
        | exact ⟨k + 1, by omega, rfl, sgE rfl (by rw [sel_next hr (by simp only; omega) (by assumption), ftL_snoc, aftG_snoc, hS]; rfl)⟩
      · replace hb3 := hB.h {} hb3
        try rw [eqI] at hb3
        repeat refine gwp_seq ?_
        refine gwp_skip ?_
        refine cl [1, 2, 3, 4, 8, 9, 10] (k := ?_)
        repeat refine gwp_seq ?_
        refine gwp_region ?_
        refine v0 (k := ?_)
        refine v1 (hc := kWk1.h {}) (k := ?_)
        refine v0 (k := ?_)
        refine nil0 ?_
        refine lend [1, 2, 3, 4, 8, 9, 10] (h := ?_) (hV := ?_) (n' := c.rs.length - (k + 1))
        · omega
        first
        | exact ⟨k + 1, by omega, rfl, sgE rfl (by rw [sel_skip1 hr (by simp only; omega)])⟩
        | exact ⟨k + 1, by omega, rfl, sgE rfl (by rw [sel_skip2 hr (by assumption)])⟩
        | exact ⟨k + 1, by omega, rfl, sgE rfl (by rw [sel_next hr (by simp only; omega) (by assumption), ftL_snoc, aftG_snoc, hS]; rfl)⟩
    · replace hb2 := hB.h {} hb2
      try rw [eqI] at hb2
      refine x0 (k := ?_)
      refine x0 (k := ?_)
      refine x0 (k := ?_)
      refine v0 (k := ?_)
      refine nil0 ?_
      repeat refine gwp_seq ?_
      refine cF (k := ?_)
      repeat refine gwp_seq ?_
      refine gwp_skip ?_
      refine cl [1, 2, 3, 4, 8, 9, 10] (k := ?_)
      repeat refine gwp_seq ?_
      refine gwp_region ?_
      refine v0 (k := ?_)
      refine v1 (hc := kWk1.h {}) (k := ?_)
      refine v0 (k := ?_)
      refine nil0 ?_
      refine lend [1, 2, 3, 4, 8, 9, 10] (h := ?_) (hV := ?_) (n' := c.rs.length - (k + 1))
      · omega
      first
      | exact ⟨k + 1, by omega, rfl, sgE rfl (by rw [sel_skip1 hr (by simp only; omega)])⟩
      | exact ⟨k + 1, by omega, rfl, sgE rfl (by rw [sel_skip2 hr (by assumption)])⟩
      | exact ⟨k + 1, by omega, rfl, sgE rfl (by rw [sel_next hr (by simp only; omega) (by assumption), ftL_snoc, aftG_snoc, hS]; rfl)⟩
  · replace hb1 := hB.h {} hb1
    try rw [eqI] at hb1
    repeat refine gwp_seq ?_
    refine gwp_exit ?_
    repeat (first | refine gthen_exit ?_ | refine gnoGoto_exit ?_ | refine gblock_here ?_ | refine gblock_out rfl ?_)
    refine cl [8, 9] (k := ?_)
    repeat refine gwp_seq ?_
    obtain rfl : k = c.rs.length := by omega
    refine gwp_region ?_
    refine v0 (k := ?_)
    refine s1 (hc := kWk1.h {}) (k := ?_)
    refine nil0 ?_
    repeat refine gwp_seq ?_
    refine gwp_ret ?_
    repeat (first | refine gthen_ret ?_ | refine gblock_ret ?_ | refine gnoGoto_ret ?_)
    refine fin_ret ?_
    refine fp (g := .p (.agg (stt (aftG (kE c.kn) who c.ps.toNat (ftL (selN p set c.rs c.rs.length)))))) (v := .agg (stt (aftG (kE c.kn) who c.ps.toNat (ftL (selN p set c.rs c.rs.length))))) (d := 0 + 16 ≤ 16 ∧ True) (d' := True) (hg := by (simp only [gresult, gresL, gres1, tup_one, mkFr_cons, mkFr_nil, mkHp_cons, mkHp_nil, Nat.reduceEqDiff, reduceIte, ti_108, gload, isAggD, mkAgg, List.drop_zero, takeS, allP_p, List.length_map, stt_len] <;> rfl)) (hp := by simp only [toP]) (hR := ?_)
    rfl
theorem ent102 : Enters Try.prog 102 := Enters.mk Try.func102 (by kernel_rfl) rfl
theorem r_needs (c : Ch) (hv : c.valid = true) (p : Int) (set : Nat) (hset : set < 4096) : PSpec Try.prog 102 [.agg [.int .i64 c.pl, .int .i64 c.ps, .list (c.kn.map pk), .list (c.rs.map pr), .int .i64 c.ms], .int .i64 p, .int .i64 (set : Nat)] (.ok (.int .i64 (nedV c p set))) := by
  refine pspec_of Try.func102 (rfl : Try.f102.body = some _) rfl ?_
  intro E A C hN hL
  replace hN : C.N = 31 := hN
  simp only [Gh.num, List.map_cons, List.map_nil, Nat.reduceAdd]
  have hn := valid_num hv
  have htk := takeS
  have hdr := dropS
  have hone := oneS
  have hlen := stt_len
  repeat refine gwp_seq ?_
  refine gwp_region ?_
  refine n1 130 false (hc := kWk1.h {}) (k := ?_)
  refine v0 (k := ?_)
  refine nil0 ?_
  refine cl [1, 2, 3] (k := ?_)
  repeat refine gwp_seq ?_
  refine gwp_region ?_
  refine v0 (k := ?_)
  refine v0 (k := ?_)
  refine v0 (k := ?_)
  refine pc0 (spec := r_after c hv p set hset 0 (by omega)) (hent := ent84) (k := ?_)
  refine n1 170 false (hc := kWk1.h {}) (k := ?_)
  refine s1 (hc := kWk1.h {}) (k := ?_)
  refine nil0 ?_
  refine cl [3, 7] (k := ?_)
  repeat refine gwp_seq ?_
  refine gwp_region ?_
  refine v0 (k := ?_)
  refine nil0 ?_
  refine cl [3, 7, 8] (k := ?_)
  repeat refine gwp_seq ?_
  refine gwp_region ?_
  refine v0 (k := ?_)
  refine nil0 ?_
  refine cl [3, 7, 8, 9] (k := ?_)
  repeat refine gwp_seq ?_
  refine gwp_block ?_
  repeat refine gwp_seq ?_
  refine gc_loop (fun mz σ => ∃ k : Nat, ((k : Int) ≤ c.ps) ∧ mz = c.ps.toNat - k ∧ σ = (sg [(3, .ref 130 0), (7, .ref 170 0), (8, .p (.int .i64 (minS (aftG (kE c.kn) 0 c.ps.toNat (selC c p set)) k))), (9, .p (.int .i64 (k : Nat)))] [(130, .cells [.p (.int .i64 c.pl), .p (.int .i64 c.ps), .p (.list (c.kn.map pk)), .p (.list (c.rs.map pr)), .p (.int .i64 c.ms)] 0), (170, .cells ((stt (aftG (kE c.kn) 0 c.ps.toNat (selC c p set))).map G.p) 0)] A [] : Sg E)) ?_ (fun mz σ hI => ?_)
  · refine lbeg [3, 7, 8, 9] (hV := ?_)
    exact ⟨_, 0, by omega, rfl, rfl⟩
  obtain ⟨k, hk, hnn, rfl⟩ := hI
  repeat refine gwp_seq ?_
  refine gwp_region ?_
  refine v0 (k := ?_)
  refine v0 (k := ?_)
  refine v0 (k := ?_)
  refine v0 (k := ?_)
  refine nil0 ?_
  repeat refine gwp_seq ?_
  refine cB (k1 := fun hb1 => ?_) (k0 := fun hb1 => ?_)
  · replace hb1 := hB.h {} hb1
    repeat refine gwp_seq ?_
    refine gwp_skip ?_
    refine cl [3, 7, 8, 9] (k := ?_)
    repeat refine gwp_seq ?_
    refine gwp_block ?_
    repeat refine gwp_seq ?_
    have g1 := stt_get (aftG (kE c.kn) 0 c.ps.toNat (selC c p set)) (x := k) (by omega) (y := 0) (by omega)
    rw [Nat.add_zero] at g1
    have g2 := stt_get (aftG (kE c.kn) 0 c.ps.toNat (selC c p set)) (x := k) (by omega) (y := 1) (by omega)
    refine rd ?_
    refine d0 0 (k := ?_)
    refine d0 1 (k := ?_)
    refine d1 2 (hc := kWk1.h {}) (k := ?_)
    refine d1 3 (hc := kWk1.h {}) (k := ?_)
    refine d0 4 (k := ?_)
    refine d0 5 (k := ?_)
    refine d1 6 (hc := kWk1.h {}) (k := ?_)
    refine d1 7 (hc := kWk1.h {}) (k := ?_)
    refine d0 8 (k := ?_)
    refine d0 9 (k := ?_)
    refine d0 10 (k := ?_)
    refine dz 11 [0, 0, 2, 6, 14, 0, 32, 96, 224, 511, 1023] (h := ?_)
    refine de 11 (h := ?_)
    refine cl [3, 7, 8, 9] (k := ?_)
    repeat refine gwp_seq ?_
    refine gwp_region ?_
    refine v0 (k := ?_)
    refine v1 (hc := kWk1.h {}) (k := ?_)
    refine v0 (k := ?_)
    refine nil0 ?_
    refine lend [3, 7, 8, 9] (h := ?_) (hV := ?_) (n' := c.ps.toNat - (k + 1))
    · omega
    exact ⟨k + 1, by omega, rfl, rfl⟩
  · replace hb1 := hB.h {} hb1
    repeat refine gwp_seq ?_
    refine gwp_exit ?_
    repeat (first | refine gthen_exit ?_ | refine gnoGoto_exit ?_ | refine gblock_here ?_ | refine gblock_out rfl ?_)
    refine cl [8] (k := ?_)
    repeat refine gwp_seq ?_
    refine gwp_region ?_
    refine v0 (k := ?_)
    refine v0 (k := ?_)
    refine nil0 ?_
    repeat refine gwp_seq ?_
    refine gwp_ret ?_
    repeat (first | refine gthen_ret ?_ | refine gblock_ret ?_ | refine gnoGoto_ret ?_)
    refine fin_ret ?_
    refine fp (hR := ?_)
    obtain rfl : k = c.ps.toNat := by omega
    rfl
theorem ent65 : Enters Try.prog 65 := Enters.mk Try.func65 (by kernel_rfl) rfl
theorem r_Needs (c : Ch) (hv : c.valid = true) (set : Nat) (hset : set < 4096) (but : Int) : PSpec Try.prog 65 [.agg [.int .i64 c.pl, .int .i64 c.ps, .list (c.kn.map pk), .list (c.rs.map pr), .int .i64 c.ms], .int .i64 (set : Nat), .int .i64 but] (.ok (.int .i64 (nedR c set but c.pl.toNat))) := by
  refine pspec_of Try.func65 (rfl : Try.f65.body = some _) rfl ?_
  intro E A C hN hL
  replace hN : C.N = 25 := hN
  simp only [Gh.num, List.map_cons, List.map_nil, Nat.reduceAdd]
  have hn := valid_num hv
  repeat refine gwp_seq ?_
  refine gwp_region ?_
  refine n1 130 false (hc := kWk2.h {}) (k := ?_)
  refine v0 (k := ?_)
  refine nil0 ?_
  refine cl [1, 2, 3] (k := ?_)
  repeat refine gwp_seq ?_
  refine gwp_region ?_
  refine v0 (k := ?_)
  refine nil0 ?_
  refine cl [1, 2, 3, 7] (k := ?_)
  repeat refine gwp_seq ?_
  refine gwp_region ?_
  refine v0 (k := ?_)
  refine nil0 ?_
  refine cl [1, 2, 3, 7, 8] (k := ?_)
  repeat refine gwp_seq ?_
  refine gwp_block ?_
  repeat refine gwp_seq ?_
  refine gc_loop (fun mz σ => ∃ k : Nat, ((k : Int) ≤ c.pl) ∧ mz = c.pl.toNat - k ∧ σ = (sg [(1, .p (.int .i64 (set : Nat))), (2, .p (.int .i64 but)), (3, .ref 130 0), (7, .p (.int .i64 (nedR c set but k))), (8, .p (.int .i64 (k : Nat)))] [(130, .cells [.p (.int .i64 c.pl), .p (.int .i64 c.ps), .p (.list (c.kn.map pk)), .p (.list (c.rs.map pr)), .p (.int .i64 c.ms)] 0)] A [] : Sg E)) ?_ (fun mz σ hI => ?_)
  · refine lbeg [1, 2, 3, 7, 8] (hV := ?_)
    exact ⟨_, 0, by omega, rfl, rfl⟩
  obtain ⟨k, hk, hnn, rfl⟩ := hI
  have h1 := nedR_in c set but k
  have h2 := nedV_in c (k : Nat) set
  repeat refine gwp_seq ?_
  refine gwp_region ?_
  refine v0 (k := ?_)
  refine v0 (k := ?_)
  refine v0 (k := ?_)
  refine v0 (k := ?_)
  refine nil0 ?_
  repeat refine gwp_seq ?_
  refine cB (k1 := fun hb1 => ?_) (k0 := fun hb1 => ?_)
  · replace hb1 := hB.h {} hb1
    try rw [eqI] at hb1
    repeat refine gwp_seq ?_
    refine gwp_skip ?_
    refine cl [1, 2, 3, 7, 8] (k := ?_)
    repeat refine gwp_seq ?_
    refine gwp_block ?_
    repeat refine gwp_seq ?_
    refine gwp_region ?_
    refine v0 (k := ?_)
    refine v0 (k := ?_)
    refine v0 (k := ?_)
    refine nil0 ?_
    repeat refine gwp_seq ?_
    refine cB (k1 := fun hb2 => ?_) (k0 := fun hb2 => ?_)
    · replace hb2 := hB.h {} hb2
      try rw [eqI] at hb2
      repeat refine gwp_seq ?_
      refine gwp_region ?_
      refine v0 (k := ?_)
      refine v0 (k := ?_)
      refine v0 (k := ?_)
      refine v0 (k := ?_)
      refine pc0 (spec := r_needs c hv (k : Nat) set hset) (hent := ent102) (k := ?_)
      refine v1 (hc := kWk2.h {}) (k := ?_)
      refine v0 (k := ?_)
      refine nil0 ?_
      refine cl [1, 2, 3, 7, 8] (k := ?_)
      repeat refine gwp_seq ?_
      refine gwp_region ?_
      refine v0 (k := ?_)
      refine v1 (hc := kWk2.h {}) (k := ?_)
      refine v0 (k := ?_)
      refine nil0 ?_
      refine lend [1, 2, 3, 7, 8] (h := ?_) (hV := ?_) (n' := c.pl.toNat - (k + 1))
      · omega
      first
      | exact ⟨k + 1, by omega, rfl, sgE (by rw [nedR, if_pos (by omega)]; rfl) rfl⟩
      | exact ⟨k + 1, by omega, rfl, sgE (by rw [nedR, if_neg (by omega)]; rfl) rfl⟩
    · replace hb2 := hB.h {} hb2
      try rw [eqI] at hb2
      repeat refine gwp_seq ?_
      refine gwp_skip ?_
      refine cl [1, 2, 3, 7, 8] (k := ?_)
      repeat refine gwp_seq ?_
      refine gwp_region ?_
      refine v0 (k := ?_)
      refine v1 (hc := kWk2.h {}) (k := ?_)
      refine v0 (k := ?_)
      refine nil0 ?_
      refine lend [1, 2, 3, 7, 8] (h := ?_) (hV := ?_) (n' := c.pl.toNat - (k + 1))
      · omega
      first
      | exact ⟨k + 1, by omega, rfl, sgE (by rw [nedR, if_pos (by omega)]; rfl) rfl⟩
      | exact ⟨k + 1, by omega, rfl, sgE (by rw [nedR, if_neg (by omega)]; rfl) rfl⟩
  · replace hb1 := hB.h {} hb1
    try rw [eqI] at hb1
    repeat refine gwp_seq ?_
    refine gwp_exit ?_
    repeat (first | refine gthen_exit ?_ | refine gnoGoto_exit ?_ | refine gblock_here ?_ | refine gblock_out rfl ?_)
    refine cl [7] (k := ?_)
    repeat refine gwp_seq ?_
    refine gwp_region ?_
    refine v0 (k := ?_)
    refine v0 (k := ?_)
    refine nil0 ?_
    repeat refine gwp_seq ?_
    refine gwp_ret ?_
    repeat (first | refine gthen_ret ?_ | refine gblock_ret ?_ | refine gnoGoto_ret ?_)
    refine fin_ret ?_
    refine fp (hR := ?_)
    obtain rfl : k = c.pl.toNat := by omega
    rfl
end Go.Proofs.Ytagdholenfkeaaa

/- Who knows whom, of a chain that is valid. -/
namespace Go.Proofs.Ytagdholenfkeaaa
open Go.Gh
theorem eF_kE (l : List Kw) : eF l (-1) = kE l := by
  funext i k
  simp only [eF, kE]
  rw [decide_eq_false (by omega), decide_eq_false (by omega)]; rfl
theorem kE_in {c : Ch} (h : c.valid = true) : ∀ a b, kE c.kn a b = true → a < c.ps.toNat ∧ b < c.ps.toNat := fun a b hab => by
  obtain ⟨k, hk, hq⟩ := List.any_eq_true.1 hab
  have := valid_kn h hk
  simp only [knowQ, Bool.or_eq_true, Bool.and_eq_true, decide_eq_true_eq] at hq
  omega
end Go.Proofs.Ytagdholenfkeaaa
