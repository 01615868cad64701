/- What functions of the program return, each for every input that its theorem names. Made small by a program of ours. -/
import Derived.Test.YtecmhhpccmaeiaaGreatDoorC1
set_option linter.unusedVariables false
set_option linter.unusedSimpArgs false
set_option maxRecDepth 100000
set_option maxHeartbeats 4000000
namespace Go.Proofs.YtecmhhpccmaeiaaGreatDoor
section
open Go.Gh
variable {E : Env Tryz.prog} {A : E.α}
structure yD (c : Prop) : Prop where
 h : c := by (first | exact True.intro | omega | (simp [P.size] <;> first | omega | (intro a _; cases a <;> rfl)) | (simp [P.size]; exact ⟨by omega, fun a _ => by cases a <;> rfl⟩) | omega | (simp only [inI]; omega) | (simp [P.size, bR, bF, bN, bB, cR, good, G.one, P.one, P.cells] <;> first | omega | assumption | simp_all))
inductive Pt where
 | w (s : Str)
 | n (k : Int)
 | sp (a b : Int)
def ptP : Pt → P
 | .w s => .iface 9 (.str s)
 | .n k => .iface 3 (.int .i64 k)
 | .sp a b => .iface 24 (.agg [.int .i64 a, .int .i64 b])
def ptT : Pt → Str
 | .w s => s
 | .n k => Lib.itoa k
 | .sp a b => Lib.itoa a ++ [44] ++ Lib.itoa b
def oH (k : Int) : Prop := -9223372036854775808 ≤ k ∧ k < 9223372036854775808
def Pt.ok : Pt → Prop
 | .w s => s.length ≤ 100
 | .n k => oH k
 | .sp a b => oH a ∧ oH b
def sep (i : Nat) : Str := if 0 < i then [32] else []
def jn (ps : List Pt) : Nat → Str
 | 0 => []
 | k + 1 => jn ps k ++ sep k ++ (match ps[k]? with | some p => ptT p | none => [])
def fL (ps : List Pt) : Str := jn ps ps.length ++ [10]
theorem qD {i : Nat} (h : 0 < i) : sep i = [32] := if_pos h
theorem sP {i : Nat} (h : ¬ 0 < i) : sep i = [] := if_neg h
theorem gJ (i : Nat) : (sep i).length ≤ 1 := by unfold sep; split <;> simp
theorem fR {k : Int} (h : oH k) : (Lib.itoa k).length ≤ 21 := by
 have hd : ∀ u : Nat, u < 18446744073709551616 → Lib.nDigits u ≤ 20 := fun u hu => by
  by_cases h0 : 1 ≤ u
  ·have := Lib.numDigits_eq u h0 hu
   split at this <;> omega
  ·rw [Lib.nDigits_small (by omega)]; omega
 unfold Lib.itoa
 obtain ⟨h1, h2⟩ := h
 split
 ·rw [List.length_cons, Lib.decDigits_length]; have := hd k.natAbs (by omega); omega
 ·rw [Lib.decDigits_length]; have := hd k.toNat (by omega); omega
theorem aCV {p : Pt} (h : p.ok) : (ptT p).length ≤ 100 := by
 cases p with
 | w s => exact h
 | n k => have := fR h; simp only [ptT]; omega
 | sp a b => have := fR h.1; have := fR h.2; simp only [ptT, List.length_append, List.length_cons, List.length_nil]; omega
theorem fD {ps : List Pt} (h : ∀ p ∈ ps, p.ok) : ∀ k, (jn ps k).length ≤ 101 * k
 | 0 => by simp [jn]
 | k + 1 => by
  have := fD h k
  have := gJ k
  simp only [jn, List.length_append]
  cases e : ps[k]? with
  | none => simp only [List.length_nil]; omega
  | some p => have := aCV (h p (List.mem_of_getElem? e)); simp only; omega
theorem fX {ps : List Pt} {k : Nat} {p : Pt} (l : Str) (h : ps[k]? = some p) : l ++ jn ps k ++ sep k ++ ptT p = l ++ jn ps (k + 1) := by
 simp only [jn, h, List.append_assoc]
theorem aFf {ps : List Pt} {k : Nat} {p : Pt} (h : ps[k]? = some p) : (ps.map ptP)[k]? = some (ptP p) := by rw [List.getElem?_map, h]; rfl
theorem iQ : aJ Tryz.prog 137 := aJ.mk Tryz.func137 (by kernel_rfl) rfl
theorem uQ : aJ Tryz.prog 96 := aJ.mk Tryz.func96 (by kernel_rfl) rfl
theorem oI (l : Str) (ps : List Pt) (h : l.length ≤ 900000) (hps : ∀ p ∈ ps, p.ok) (hl : ps.length ≤ 10) : Gh.bE E 96 [.ref 0 0, .p (.list (ps.map ptP))] (aG [(0, .cells [.ref 0 0, .own 1 (l).length] 0), (1, .arr 5 1 (u8s (l)) false)]) A (fun y => y = .ok (.p (.tuple [])) (aG [(0, .cells [.ref 0 0, .own 1 (l ++ fL ps).length] 0), (1, .arr 5 1 (u8s (l ++ fL ps)) false)]) A) := by
 refine spX 60 Tryz.func96 rfl ?_
 intro C hN hL
 simp only [Gh.num, List.map_cons, List.map_nil, Nat.reduceAdd]
 repeat apply aA
 apply aB
 iterate 3 refine v0 ?_
 apply aC
 refine cl [0, 9, 10, 11] ?_
 repeat apply aA
 refine aP ?_
 repeat apply aA
 refine cI (fun mz σ => ∃ i : Nat, (i ≤ ps.length) ∧ mz = ps.length - i ∧ σ = (sg [(0, .ref 0 0), (9, .p (.list (ps.map ptP))), (10, .p (.int .i64 (ps.length : Nat))), (11, .p (.int .i64 (i : Nat)))] [(0, .cells [.ref 0 0, .own 1 (l ++ jn ps i).length] 0), (1, .arr 5 1 (u8s (l ++ jn ps i)) false)] A [] : Sg E)) ?_ (fun mz σ hI => ?_)
 ·refine gA [0, 9, 10, 11] ?_
  exact ⟨_, 0, by omega, rfl, sgE (by simp) (by simp [jn])⟩
 obtain ⟨i, hi, hnn, rfl⟩ := hI
 repeat apply aA
 apply aB
 refine v0 ?_
 apply aC
 repeat apply aA
 refine cB (k1 := fun hb1 => ?_) (k0 := fun hb1 => ?_)
 ·replace hb1 := hB.h {} hb1
  repeat apply aA
  refine aR ?_
  refine cl [0, 9, 10, 11] ?_
  repeat apply aA
  refine aP ?_
  repeat apply aA
  obtain ⟨p, hp⟩ := fQ (l := ps) (k := i) (by omega)
  have hpp := aFf hp
  have hok := hps p (List.mem_of_getElem? hp)
  rcases p with s | k | ⟨a, b⟩
  ·simp only [ptP] at hpp
   have hok : s.length ≤ 100 := hok
   repeat apply aA
   apply aB
   refine v0 ?_
   refine v1 (hc := yD.h {}) ?_
   iterate 3 refine v0 ?_
   apply aC
   refine cl [0, 4, 5, 9, 10, 11] ?_
   repeat apply aA
   apply aB
   iterate 2 refine v0 ?_
   apply aC
   repeat apply aA
   refine cB (k1 := fun hb2 => ?_) (k0 := fun hb2 => ?_)
   ·replace hb2 := hB.h {} hb2
    repeat apply aA
    apply aB
    iterate 3 refine v0 ?_
    refine oc0 [(0, 0), (1, 1)] [] [0, 0] none (spec := tK (l ++ jn ps i) 32 (by have := fD hps i; rw [List.length_append]; omega)) (hent := tJ) ?_
    apply aC
    refine cl [0, 5, 9, 10, 11] ?_
    repeat apply aA
    obtain ⟨z, hz⟩ : ∃ z, z = (l ++ jn ps i) ++ sep i := ⟨_, rfl⟩
    have hzl : z.length ≤ 901100 := by have := fD hps i; have := gJ i; rw [hz, List.length_append, List.length_append]; omega
    first | rw [show (l ++ jn ps i) ++ [32] = z by rw [hz, qD (by omega)]] | rw [show l ++ jn ps i = z by rw [hz, sP (by omega), List.append_nil]]
    apply aB
    refine v0 ?_
    apply aC
    refine cl [0, 9, 10, 11, 22] ?_
    repeat apply aA
    refine aP ?_
    repeat apply aA
    apply aB
    iterate 2 refine v0 ?_
    refine rb 24 true (h := by (rfl)) ?_
    refine v0 ?_
    apply aC
    repeat apply aA
    refine cT ?_
    repeat apply aA
    apply aB
    refine v0 ?_
    apply aC
    refine cl [0, 6, 9, 10, 11] ?_
    repeat apply aA
    apply aB
    iterate 4 refine v0 ?_
    refine oc0 [(0, 0), (1, 1)] [] [0, 0] none (spec := mU z s (by omega) (by omega)) (hent := iP) ?_
    apply aC
    refine cl [0, 9, 10, 11] ?_
    repeat apply aA
    apply aB
    refine v1 (hc := yD.h {}) ?_
    refine v0 ?_
    apply aC
    refine eC [0, 9, 10, 11] (h := ?_) (hV := ?_) (n' := ps.length - (i + 1))
    ·omega
    exact ⟨i + 1, by omega, rfl, sgE rfl (by rw [← fX l hp, ← hz]; rfl)⟩
   ·replace hb2 := hB.h {} hb2
    repeat apply aA
    refine aR ?_
    refine cl [0, 5, 9, 10, 11] ?_
    repeat apply aA
    obtain ⟨z, hz⟩ : ∃ z, z = (l ++ jn ps i) ++ sep i := ⟨_, rfl⟩
    have hzl : z.length ≤ 901100 := by have := fD hps i; have := gJ i; rw [hz, List.length_append, List.length_append]; omega
    first | rw [show (l ++ jn ps i) ++ [32] = z by rw [hz, qD (by omega)]] | rw [show l ++ jn ps i = z by rw [hz, sP (by omega), List.append_nil]]
    apply aB
    refine v0 ?_
    apply aC
    refine cl [0, 9, 10, 11, 22] ?_
    repeat apply aA
    refine aP ?_
    repeat apply aA
    apply aB
    iterate 2 refine v0 ?_
    refine rb 24 true (h := by (rfl)) ?_
    refine v0 ?_
    apply aC
    repeat apply aA
    refine cT ?_
    repeat apply aA
    apply aB
    refine v0 ?_
    apply aC
    refine cl [0, 6, 9, 10, 11] ?_
    repeat apply aA
    apply aB
    iterate 4 refine v0 ?_
    refine oc0 [(0, 0), (1, 1)] [] [0, 0] none (spec := mU z s (by omega) (by omega)) (hent := iP) ?_
    apply aC
    refine cl [0, 9, 10, 11] ?_
    repeat apply aA
    apply aB
    refine v1 (hc := yD.h {}) ?_
    refine v0 ?_
    apply aC
    refine eC [0, 9, 10, 11] (h := ?_) (hV := ?_) (n' := ps.length - (i + 1))
    ·omega
    exact ⟨i + 1, by omega, rfl, sgE rfl (by rw [← fX l hp, ← hz]; rfl)⟩
  ·simp only [ptP] at hpp
   have hok : oH k := by simpa only [Pt.ok] using hok
   repeat apply aA
   apply aB
   refine v0 ?_
   refine v1 (hc := yD.h {}) ?_
   iterate 3 refine v0 ?_
   apply aC
   refine cl [0, 4, 5, 9, 10, 11] ?_
   repeat apply aA
   apply aB
   iterate 2 refine v0 ?_
   apply aC
   repeat apply aA
   refine cB (k1 := fun hb3 => ?_) (k0 := fun hb3 => ?_)
   ·replace hb3 := hB.h {} hb3
    repeat apply aA
    apply aB
    iterate 3 refine v0 ?_
    refine oc0 [(0, 0), (1, 1)] [] [0, 0] none (spec := tK (l ++ jn ps i) 32 (by have := fD hps i; rw [List.length_append]; omega)) (hent := tJ) ?_
    apply aC
    refine cl [0, 5, 9, 10, 11] ?_
    repeat apply aA
    obtain ⟨z, hz⟩ : ∃ z, z = (l ++ jn ps i) ++ sep i := ⟨_, rfl⟩
    have hzl : z.length ≤ 901100 := by have := fD hps i; have := gJ i; rw [hz, List.length_append, List.length_append]; omega
    first | rw [show (l ++ jn ps i) ++ [32] = z by rw [hz, qD (by omega)]] | rw [show l ++ jn ps i = z by rw [hz, sP (by omega), List.append_nil]]
    apply aB
    refine v0 ?_
    apply aC
    refine cl [0, 9, 10, 11, 22] ?_
    repeat apply aA
    refine aP ?_
    repeat apply aA
    apply aB
    iterate 2 refine v0 ?_
    refine rb 24 false (h := by (rfl)) ?_
    refine v0 ?_
    apply aC
    repeat apply aA
    refine cF ?_
    repeat apply aA
    apply aB
    iterate 2 refine v0 ?_
    refine rb 32 true (h := by (rfl)) ?_
    refine v0 ?_
    apply aC
    repeat apply aA
    refine cT ?_
    repeat apply aA
    apply aB
    refine v0 ?_
    apply aC
    refine cl [0, 7, 9, 10, 11] ?_
    repeat apply aA
    refine rd ?_
    refine d0 0 ?_
    refine d0 1 ?_
    refine d0 2 ?_
    refine d0 3 ?_
    refine oT 4 (spec := iO k hok.1 hok.2) (hent := iQ) ?_
    refine eO 5 [(0, 0), (1, 1)] [] [0, 0] none (spec := mU z (Lib.itoa k) (by omega) (by have := fR hok; omega)) (hent := iP) ?_
    refine dz 6 [0, 1, 3, 0, 8, 31] ?_
    refine de 6 ?_
    refine cl [0, 9, 10, 11] ?_
    repeat apply aA
    apply aB
    refine v1 (hc := yD.h {}) ?_
    refine v0 ?_
    apply aC
    refine eC [0, 9, 10, 11] (h := ?_) (hV := ?_) (n' := ps.length - (i + 1))
    ·omega
    exact ⟨i + 1, by omega, rfl, sgE rfl (by rw [← fX l hp, ← hz]; rfl)⟩
   ·replace hb3 := hB.h {} hb3
    repeat apply aA
    refine aR ?_
    refine cl [0, 5, 9, 10, 11] ?_
    repeat apply aA
    obtain ⟨z, hz⟩ : ∃ z, z = (l ++ jn ps i) ++ sep i := ⟨_, rfl⟩
    have hzl : z.length ≤ 901100 := by have := fD hps i; have := gJ i; rw [hz, List.length_append, List.length_append]; omega
    first | rw [show (l ++ jn ps i) ++ [32] = z by rw [hz, qD (by omega)]] | rw [show l ++ jn ps i = z by rw [hz, sP (by omega), List.append_nil]]
    apply aB
    refine v0 ?_
    apply aC
    refine cl [0, 9, 10, 11, 22] ?_
    repeat apply aA
    refine aP ?_
    repeat apply aA
    apply aB
    iterate 2 refine v0 ?_
    refine rb 24 false (h := by (rfl)) ?_
    refine v0 ?_
    apply aC
    repeat apply aA
    refine cF ?_
    repeat apply aA
    apply aB
    iterate 2 refine v0 ?_
    refine rb 32 true (h := by (rfl)) ?_
    refine v0 ?_
    apply aC
    repeat apply aA
    refine cT ?_
    repeat apply aA
    apply aB
    refine v0 ?_
    apply aC
    refine cl [0, 7, 9, 10, 11] ?_
    repeat apply aA
    refine rd ?_
    refine d0 0 ?_
    refine d0 1 ?_
    refine d0 2 ?_
    refine d0 3 ?_
    refine oT 4 (spec := iO k hok.1 hok.2) (hent := iQ) ?_
    refine eO 5 [(0, 0), (1, 1)] [] [0, 0] none (spec := mU z (Lib.itoa k) (by omega) (by have := fR hok; omega)) (hent := iP) ?_
    refine dz 6 [0, 1, 3, 0, 8, 31] ?_
    refine de 6 ?_
    refine cl [0, 9, 10, 11] ?_
    repeat apply aA
    apply aB
    refine v1 (hc := yD.h {}) ?_
    refine v0 ?_
    apply aC
    refine eC [0, 9, 10, 11] (h := ?_) (hV := ?_) (n' := ps.length - (i + 1))
    ·omega
    exact ⟨i + 1, by omega, rfl, sgE rfl (by rw [← fX l hp, ← hz]; rfl)⟩
  ·simp only [ptP] at hpp
   have hok : oH a ∧ oH b := by simpa only [Pt.ok] using hok
   have hia := fR hok.1
   have hib := fR hok.2
   repeat apply aA
   apply aB
   refine v0 ?_
   refine v1 (hc := yD.h {}) ?_
   iterate 3 refine v0 ?_
   apply aC
   refine cl [0, 4, 5, 9, 10, 11] ?_
   repeat apply aA
   apply aB
   iterate 2 refine v0 ?_
   apply aC
   repeat apply aA
   refine cB (k1 := fun hb4 => ?_) (k0 := fun hb4 => ?_)
   ·replace hb4 := hB.h {} hb4
    repeat apply aA
    apply aB
    iterate 3 refine v0 ?_
    refine oc0 [(0, 0), (1, 1)] [] [0, 0] none (spec := tK (l ++ jn ps i) 32 (by have := fD hps i; rw [List.length_append]; omega)) (hent := tJ) ?_
    apply aC
    refine cl [0, 5, 9, 10, 11] ?_
    repeat apply aA
    obtain ⟨z, hz⟩ : ∃ z, z = (l ++ jn ps i) ++ sep i := ⟨_, rfl⟩
    have hzl : z.length ≤ 901100 := by have := fD hps i; have := gJ i; rw [hz, List.length_append, List.length_append]; omega
    first | rw [show (l ++ jn ps i) ++ [32] = z by rw [hz, qD (by omega)]] | rw [show l ++ jn ps i = z by rw [hz, sP (by omega), List.append_nil]]
    apply aB
    refine v0 ?_
    apply aC
    refine cl [0, 9, 10, 11, 22] ?_
    repeat apply aA
    refine aP ?_
    repeat apply aA
    apply aB
    iterate 2 refine v0 ?_
    refine rb 24 false (h := by (rfl)) ?_
    refine v0 ?_
    apply aC
    repeat apply aA
    refine cF ?_
    repeat apply aA
    apply aB
    iterate 2 refine v0 ?_
    refine rb 32 false (h := by (rfl)) ?_
    refine v0 ?_
    apply aC
    repeat apply aA
    refine cF ?_
    repeat apply aA
    apply aB
    iterate 2 refine v0 ?_
    refine rb 41 true (h := by (rfl)) ?_
    refine v0 ?_
    apply aC
    repeat apply aA
    refine cT ?_
    repeat apply aA
    apply aB
    refine n1 180 false (hc := yD.h {}) ?_
    refine s1 (hc := yD.h {}) ?_
    apply aC
    refine cl [0, 8, 9, 10, 11] ?_
    repeat apply aA
    refine rd ?_
    refine d0 0 ?_
    refine d0 1 ?_
    refine d0 2 ?_
    refine d0 3 ?_
    refine d0 4 ?_
    refine oT 5 (spec := iO a hok.1.1 hok.1.2) (hent := iQ) ?_
    refine d1 6 (hc := by (omega)) ?_
    refine d0 7 ?_
    refine d0 8 ?_
    refine oT 9 (spec := iO b hok.2.1 hok.2.2) (hent := iQ) ?_
    refine d1 10 (hc := by (simp only [List.length_append, List.length_cons, List.length_nil]; omega)) ?_
    refine eO 11 [(0, 0), (1, 1)] [] [0, 0] none (spec := mU z (Lib.itoa a ++ [44] ++ Lib.itoa b) (by omega) (by have := aCV (p := .sp a b) hok; simp only [ptT] at this; omega)) (hent := iP) ?_
    refine dz 12 [0, 1, 3, 0, 8, 24, 56, 0, 128, 440, 1016, 2047] ?_
    refine de 12 ?_
    refine cl [0, 9, 10, 11] ?_
    repeat apply aA
    apply aB
    refine v1 (hc := yD.h {}) ?_
    refine v0 ?_
    apply aC
    refine eC [0, 9, 10, 11] (h := ?_) (hV := ?_) (n' := ps.length - (i + 1))
    ·omega
    exact ⟨i + 1, by omega, rfl, sgE rfl (by rw [← fX l hp, ← hz]; rfl)⟩
   ·replace hb4 := hB.h {} hb4
    repeat apply aA
    refine aR ?_
    refine cl [0, 5, 9, 10, 11] ?_
    repeat apply aA
    obtain ⟨z, hz⟩ : ∃ z, z = (l ++ jn ps i) ++ sep i := ⟨_, rfl⟩
    have hzl : z.length ≤ 901100 := by have := fD hps i; have := gJ i; rw [hz, List.length_append, List.length_append]; omega
    first | rw [show (l ++ jn ps i) ++ [32] = z by rw [hz, qD (by omega)]] | rw [show l ++ jn ps i = z by rw [hz, sP (by omega), List.append_nil]]
    apply aB
    refine v0 ?_
    apply aC
    refine cl [0, 9, 10, 11, 22] ?_
    repeat apply aA
    refine aP ?_
    repeat apply aA
    apply aB
    iterate 2 refine v0 ?_
    refine rb 24 false (h := by (rfl)) ?_
    refine v0 ?_
    apply aC
    repeat apply aA
    refine cF ?_
    repeat apply aA
    apply aB
    iterate 2 refine v0 ?_
    refine rb 32 false (h := by (rfl)) ?_
    refine v0 ?_
    apply aC
    repeat apply aA
    refine cF ?_
    repeat apply aA
    apply aB
    iterate 2 refine v0 ?_
    refine rb 41 true (h := by (rfl)) ?_
    refine v0 ?_
    apply aC
    repeat apply aA
    refine cT ?_
    repeat apply aA
    apply aB
    refine n1 180 false (hc := yD.h {}) ?_
    refine s1 (hc := yD.h {}) ?_
    apply aC
    refine cl [0, 8, 9, 10, 11] ?_
    repeat apply aA
    refine rd ?_
    refine d0 0 ?_
    refine d0 1 ?_
    refine d0 2 ?_
    refine d0 3 ?_
    refine d0 4 ?_
    refine oT 5 (spec := iO a hok.1.1 hok.1.2) (hent := iQ) ?_
    refine d1 6 (hc := by (omega)) ?_
    refine d0 7 ?_
    refine d0 8 ?_
    refine oT 9 (spec := iO b hok.2.1 hok.2.2) (hent := iQ) ?_
    refine d1 10 (hc := by (simp only [List.length_append, List.length_cons, List.length_nil]; omega)) ?_
    refine eO 11 [(0, 0), (1, 1)] [] [0, 0] none (spec := mU z (Lib.itoa a ++ [44] ++ Lib.itoa b) (by omega) (by have := aCV (p := .sp a b) hok; simp only [ptT] at this; omega)) (hent := iP) ?_
    refine dz 12 [0, 1, 3, 0, 8, 24, 56, 0, 128, 440, 1016, 2047] ?_
    refine de 12 ?_
    refine cl [0, 9, 10, 11] ?_
    repeat apply aA
    apply aB
    refine v1 (hc := yD.h {}) ?_
    refine v0 ?_
    apply aC
    refine eC [0, 9, 10, 11] (h := ?_) (hV := ?_) (n' := ps.length - (i + 1))
    ·omega
    exact ⟨i + 1, by omega, rfl, sgE rfl (by rw [← fX l hp, ← hz]; rfl)⟩
 ·replace hb1 := hB.h {} hb1
  repeat apply aA
  refine bV ?_
  repeat (first | refine bH ?_ | refine aY ?_ | refine bC ?_ | refine bI rfl ?_)
  refine cl [0] ?_
  repeat apply aA
  obtain rfl : i = ps.length := by omega
  apply aB
  iterate 3 refine v0 ?_
  refine oc0 [(0, 0), (1, 1)] [] [0, 0] none (spec := tK (l ++ jn ps ps.length) 10 (by have := fD hps ps.length; rw [List.length_append]; omega)) (hent := tJ) ?_
  apply aC
  try refine bK ?_
  refine cW ?_
  refine fh0 [0, 1] ?_
  rw [fL, ← List.append_assoc]
end
section
open Go.Gh
variable {E : Env Tryz.prog} {A : E.α}
structure pM (c : Prop) : Prop where
 h : c := by (first | exact True.intro | omega | (simp [P.size] <;> first | omega | (intro a _; cases a <;> rfl)) | (simp [P.size]; exact ⟨by omega, fun a _ => by cases a <;> rfl⟩) | omega | (simp only [inI]; omega) | (simp [P.size, bR, bF, bN, bB, cR, good, G.one, P.one, P.cells] <;> first | omega | assumption | simp_all))
def hF (ps : List Pt) (i : Nat) : List (Nat × Ob) := if i = 0 then [(0, .tcells 158 [.p .nilptr, .nils])] else [(0, .cells [.ref 0 0, .own 3000 (jn ps i).length] 0), (3000, .arr 5 1 (u8s (jn ps i)) false)]
theorem qW {ps : List Pt} {i : Nat} (h : 0 < i) : hF ps i = [(0, .cells [.ref 0 0, .own 3000 (jn ps i).length] 0), (3000, .arr 5 1 (u8s (jn ps i)) false)] := if_neg (by omega)
theorem aO9 {ps : List Pt} : hF ps 0 = [(0, .tcells 158 [.p .nilptr, .nils])] := rfl
theorem aCW {ps : List Pt} {p : Pt} (h : ps[0]? = some p) : jn ps 1 = ptT p := by simp [jn, h, sep]
theorem aA4 (ps : List Pt) (h0 : 0 < ps.length) (hps : ∀ p ∈ ps, p.ok) (hl : ps.length ≤ 10) : Gh.bE E 96 [.ref 0 0, .p (.list (ps.map ptP))] (aG [(0, .tcells 158 [.p .nilptr, .nils])]) A (fun y => y = .ok (.p (.tuple [])) (aG [(0, .cells [.ref 0 0, .own 3000 (fL ps).length] 0), (3000, .arr 5 1 (u8s (fL ps)) false)]) A) := by
 refine spX 60 Tryz.func96 rfl ?_
 intro C hN hL
 simp only [Gh.num, List.map_cons, List.map_nil, Nat.reduceAdd]
 repeat apply aA
 apply aB
 iterate 3 refine v0 ?_
 apply aC
 refine cl [0, 9, 10, 11] ?_
 repeat apply aA
 refine aP ?_
 repeat apply aA
 refine cI (fun mz σ => ∃ i : Nat, (i ≤ ps.length) ∧ mz = ps.length - i ∧ σ = (sg [(0, .ref 0 0), (9, .p (.list (ps.map ptP))), (10, .p (.int .i64 (ps.length : Nat))), (11, .p (.int .i64 (i : Nat)))] (hF ps i) A [] : Sg E)) ?_ (fun mz σ hI => ?_)
 ·refine gA [0, 9, 10, 11] ?_
  exact ⟨_, 0, by omega, rfl, sgE (by simp) rfl⟩
 obtain ⟨i, hi, hnn, rfl⟩ := hI
 repeat apply aA
 rcases Nat.eq_zero_or_pos i with hi0 | hi0
 ·subst hi0
  rw [aO9]
  repeat apply aA
  apply aB
  refine v0 ?_
  refine rb 12 true (h := by (exact decide_eq_true (by omega))) ?_
  apply aC
  repeat apply aA
  refine cT ?_
  repeat apply aA
  refine aR ?_
  refine cl [0, 9, 10, 11] ?_
  repeat apply aA
  refine aP ?_
  repeat apply aA
  obtain ⟨p, hp⟩ := fQ (l := ps) (k := 0) (by omega)
  have hpp := aFf hp
  have hok := hps p (List.mem_of_getElem? hp)
  rcases p with s | k | ⟨a, b⟩
  ·simp only [ptP] at hpp
   have hok : s.length ≤ 100 := hok
   repeat apply aA
   apply aB
   refine v0 ?_
   refine v1 (hc := pM.h {}) ?_
   iterate 3 refine v0 ?_
   apply aC
   refine cl [0, 4, 5, 9, 10, 11] ?_
   repeat apply aA
   apply aB
   iterate 2 refine v0 ?_
   refine rb 17 false (h := by (rfl)) ?_
   apply aC
   repeat apply aA
   refine cF ?_
   repeat apply aA
   refine aR ?_
   refine cl [0, 5, 9, 10, 11] ?_
   repeat apply aA
   apply aB
   refine v0 ?_
   apply aC
   refine cl [0, 9, 10, 11, 22] ?_
   repeat apply aA
   refine aP ?_
   repeat apply aA
   apply aB
   iterate 2 refine v0 ?_
   refine rb 24 true (h := by (rfl)) ?_
   refine v0 ?_
   apply aC
   repeat apply aA
   refine cT ?_
   repeat apply aA
   apply aB
   refine v0 ?_
   apply aC
   refine cl [0, 6, 9, 10, 11] ?_
   repeat apply aA
   apply aB
   iterate 4 refine v0 ?_
   refine oc0 [(0, 0), (240, 3000)] [] [0, 0] none (spec := aFe s (by omega)) (hent := iP) ?_
   apply aC
   refine cl [0, 9, 10, 11] ?_
   repeat apply aA
   apply aB
   refine v1 (hc := pM.h {}) ?_
   refine v0 ?_
   apply aC
   refine eC [0, 9, 10, 11] (h := ?_) (hV := ?_) (n' := mz - 1)
   ·omega
   first
   | exact ⟨0 + 1, by omega, by omega, sgE rfl (by rw [qW (by omega), Nat.zero_add, aCW hp]; rfl)⟩
   | exact ⟨i + 1, by omega, by omega, sgE rfl (by rw [qW (by omega), ← List.nil_append (jn ps (i + 1)), ← fX [] hp, List.nil_append, ← hz]; rfl)⟩
  ·simp only [ptP] at hpp
   have hok : oH k := by simpa only [Pt.ok] using hok
   have hik := fR hok
   repeat apply aA
   apply aB
   refine v0 ?_
   refine v1 (hc := pM.h {}) ?_
   iterate 3 refine v0 ?_
   apply aC
   refine cl [0, 4, 5, 9, 10, 11] ?_
   repeat apply aA
   apply aB
   iterate 2 refine v0 ?_
   refine rb 17 false (h := by (rfl)) ?_
   apply aC
   repeat apply aA
   refine cF ?_
   repeat apply aA
   refine aR ?_
   refine cl [0, 5, 9, 10, 11] ?_
   repeat apply aA
   apply aB
   refine v0 ?_
   apply aC
   refine cl [0, 9, 10, 11, 22] ?_
   repeat apply aA
   refine aP ?_
   repeat apply aA
   apply aB
   iterate 2 refine v0 ?_
   refine rb 24 false (h := by (rfl)) ?_
   refine v0 ?_
   apply aC
   repeat apply aA
   refine cF ?_
   repeat apply aA
   apply aB
   iterate 2 refine v0 ?_
   refine rb 32 true (h := by (rfl)) ?_
   refine v0 ?_
   apply aC
   repeat apply aA
   refine cT ?_
   repeat apply aA
   apply aB
   refine v0 ?_
   apply aC
   refine cl [0, 7, 9, 10, 11] ?_
   repeat apply aA
   refine rd ?_
   refine d0 0 ?_
   refine d0 1 ?_
   refine d0 2 ?_
   refine d0 3 ?_
   refine oT 4 (spec := iO k hok.1 hok.2) (hent := iQ) ?_
   refine eO 5 [(0, 0), (240, 3000)] [] [0, 0] none (spec := aFe (Lib.itoa k) (by omega)) (hent := iP) ?_
   refine dz 6 [0, 1, 3, 0, 8, 31] ?_
   refine de 6 ?_
   refine cl [0, 9, 10, 11] ?_
   repeat apply aA
   apply aB
   refine v1 (hc := pM.h {}) ?_
   refine v0 ?_
   apply aC
   refine eC [0, 9, 10, 11] (h := ?_) (hV := ?_) (n' := mz - 1)
   ·omega
   first
   | exact ⟨0 + 1, by omega, by omega, sgE rfl (by rw [qW (by omega), Nat.zero_add, aCW hp]; rfl)⟩
   | exact ⟨i + 1, by omega, by omega, sgE rfl (by rw [qW (by omega), ← List.nil_append (jn ps (i + 1)), ← fX [] hp, List.nil_append, ← hz]; rfl)⟩
  ·simp only [ptP] at hpp
   have hok : oH a ∧ oH b := by simpa only [Pt.ok] using hok
   have hia := fR hok.1
   have hib := fR hok.2
   have hiab : (Lib.itoa a ++ [44] ++ Lib.itoa b).length ≤ 100 := by simp only [List.length_append, List.length_cons, List.length_nil]; omega
   repeat apply aA
   apply aB
   refine v0 ?_
   refine v1 (hc := pM.h {}) ?_
   iterate 3 refine v0 ?_
   apply aC
   refine cl [0, 4, 5, 9, 10, 11] ?_
   repeat apply aA
   apply aB
   iterate 2 refine v0 ?_
   refine rb 17 false (h := by (rfl)) ?_
   apply aC
   repeat apply aA
   refine cF ?_
   repeat apply aA
   refine aR ?_
   refine cl [0, 5, 9, 10, 11] ?_
   repeat apply aA
   apply aB
   refine v0 ?_
   apply aC
   refine cl [0, 9, 10, 11, 22] ?_
   repeat apply aA
   refine aP ?_
   repeat apply aA
   apply aB
   iterate 2 refine v0 ?_
   refine rb 24 false (h := by (rfl)) ?_
   refine v0 ?_
   apply aC
   repeat apply aA
   refine cF ?_
   repeat apply aA
   apply aB
   iterate 2 refine v0 ?_
   refine rb 32 false (h := by (rfl)) ?_
   refine v0 ?_
   apply aC
   repeat apply aA
   refine cF ?_
   repeat apply aA
   apply aB
   iterate 2 refine v0 ?_
   refine rb 41 true (h := by (rfl)) ?_
   refine v0 ?_
   apply aC
   repeat apply aA
   refine cT ?_
   repeat apply aA
   apply aB
   refine n1 180 false (hc := pM.h {}) ?_
   refine s1 (hc := pM.h {}) ?_
   apply aC
   refine cl [0, 8, 9, 10, 11] ?_
   repeat apply aA
   refine rd ?_
   refine d0 0 ?_
   refine d0 1 ?_
   refine d0 2 ?_
   refine d0 3 ?_
   refine d0 4 ?_
   refine oT 5 (spec := iO a hok.1.1 hok.1.2) (hent := iQ) ?_
   refine d1 6 (hc := by (omega)) ?_
   refine d0 7 ?_
   refine d0 8 ?_
   refine oT 9 (spec := iO b hok.2.1 hok.2.2) (hent := iQ) ?_
   refine d1 10 (hc := by (simp only [List.length_append, List.length_cons, List.length_nil]; omega)) ?_
   refine eO 11 [(0, 0), (240, 3000)] [] [0, 0] none (spec := aFe (Lib.itoa a ++ [44] ++ Lib.itoa b) (by omega)) (hent := iP) ?_
   refine dz 12 [0, 1, 3, 0, 8, 24, 56, 0, 128, 440, 1016, 2047] ?_
   refine de 12 ?_
   refine cl [0, 9, 10, 11] ?_
   repeat apply aA
   apply aB
   refine v1 (hc := pM.h {}) ?_
   refine v0 ?_
   apply aC
   refine eC [0, 9, 10, 11] (h := ?_) (hV := ?_) (n' := mz - 1)
   ·omega
   first
   | exact ⟨0 + 1, by omega, by omega, sgE rfl (by rw [qW (by omega), Nat.zero_add, aCW hp]; rfl)⟩
   | exact ⟨i + 1, by omega, by omega, sgE rfl (by rw [qW (by omega), ← List.nil_append (jn ps (i + 1)), ← fX [] hp, List.nil_append, ← hz]; rfl)⟩
 ·rw [qW hi0]
  repeat apply aA
  apply aB
  refine v0 ?_
  apply aC
  repeat apply aA
  refine cB (k1 := fun hb1 => ?_) (k0 := fun hb1 => ?_)
  ·replace hb1 := hB.h {} hb1
   repeat apply aA
   refine aR ?_
   refine cl [0, 9, 10, 11] ?_
   repeat apply aA
   refine aP ?_
   repeat apply aA
   obtain ⟨p, hp⟩ := fQ (l := ps) (k := i) (by omega)
   have hpp := aFf hp
   have hok := hps p (List.mem_of_getElem? hp)
   rcases p with s | k | ⟨a, b⟩
   ·simp only [ptP] at hpp
    have hok : s.length ≤ 100 := hok
    repeat apply aA
    apply aB
    refine v0 ?_
    refine v1 (hc := pM.h {}) ?_
    iterate 3 refine v0 ?_
    apply aC
    refine cl [0, 4, 5, 9, 10, 11] ?_
    repeat apply aA
    apply aB
    iterate 2 refine v0 ?_
    apply aC
    repeat apply aA
    refine cB (k1 := fun hb2 => ?_) (k0 := fun hb2 => ?_)
    ·replace hb2 := hB.h {} hb2
     repeat apply aA
     apply aB
     iterate 3 refine v0 ?_
     refine oc0 [(0, 0), (1, 3000)] [] [0, 0] none (spec := tK (jn ps i) 32 (by have := fD hps i; omega)) (hent := tJ) ?_
     apply aC
     refine cl [0, 5, 9, 10, 11] ?_
     repeat apply aA
     obtain ⟨z, hz⟩ : ∃ z, z = jn ps i ++ sep i := ⟨_, rfl⟩
     have hzl : z.length ≤ 901100 := by have := fD hps i; have := gJ i; rw [hz, List.length_append]; omega
     first | rw [show jn ps i ++ [32] = z by rw [hz, qD (by omega)]] | rw [show jn ps i = z by rw [hz, sP (by omega), List.append_nil]]
     apply aB
     refine v0 ?_
     apply aC
     refine cl [0, 9, 10, 11, 22] ?_
     repeat apply aA
     refine aP ?_
     repeat apply aA
     apply aB
     iterate 2 refine v0 ?_
     refine rb 24 true (h := by (rfl)) ?_
     refine v0 ?_
     apply aC
     repeat apply aA
     refine cT ?_
     repeat apply aA
     apply aB
     refine v0 ?_
     apply aC
     refine cl [0, 6, 9, 10, 11] ?_
     repeat apply aA
     apply aB
     iterate 4 refine v0 ?_
     refine oc0 [(0, 0), (1, 3000)] [] [0, 0] none (spec := mU z s (by omega) (by omega)) (hent := iP) ?_
     apply aC
     refine cl [0, 9, 10, 11] ?_
     repeat apply aA
     apply aB
     refine v1 (hc := pM.h {}) ?_
     refine v0 ?_
     apply aC
     refine eC [0, 9, 10, 11] (h := ?_) (hV := ?_) (n' := mz - 1)
     ·omega
     first
     | exact ⟨0 + 1, by omega, by omega, sgE rfl (by rw [qW (by omega), Nat.zero_add, aCW hp]; rfl)⟩
     | exact ⟨i + 1, by omega, by omega, sgE rfl (by rw [qW (by omega), ← List.nil_append (jn ps (i + 1)), ← fX [] hp, List.nil_append, ← hz]; rfl)⟩
    ·replace hb2 := hB.h {} hb2
     repeat apply aA
     refine aR ?_
     refine cl [0, 5, 9, 10, 11] ?_
     repeat apply aA
     obtain ⟨z, hz⟩ : ∃ z, z = jn ps i ++ sep i := ⟨_, rfl⟩
     have hzl : z.length ≤ 901100 := by have := fD hps i; have := gJ i; rw [hz, List.length_append]; omega
     first | rw [show jn ps i ++ [32] = z by rw [hz, qD (by omega)]] | rw [show jn ps i = z by rw [hz, sP (by omega), List.append_nil]]
     apply aB
     refine v0 ?_
     apply aC
     refine cl [0, 9, 10, 11, 22] ?_
     repeat apply aA
     refine aP ?_
     repeat apply aA
     apply aB
     iterate 2 refine v0 ?_
     refine rb 24 true (h := by (rfl)) ?_
     refine v0 ?_
     apply aC
     repeat apply aA
     refine cT ?_
     repeat apply aA
     apply aB
     refine v0 ?_
     apply aC
     refine cl [0, 6, 9, 10, 11] ?_
     repeat apply aA
     apply aB
     iterate 4 refine v0 ?_
     refine oc0 [(0, 0), (1, 3000)] [] [0, 0] none (spec := mU z s (by omega) (by omega)) (hent := iP) ?_
     apply aC
     refine cl [0, 9, 10, 11] ?_
     repeat apply aA
     apply aB
     refine v1 (hc := pM.h {}) ?_
     refine v0 ?_
     apply aC
     refine eC [0, 9, 10, 11] (h := ?_) (hV := ?_) (n' := mz - 1)
     ·omega
     first
     | exact ⟨0 + 1, by omega, by omega, sgE rfl (by rw [qW (by omega), Nat.zero_add, aCW hp]; rfl)⟩
     | exact ⟨i + 1, by omega, by omega, sgE rfl (by rw [qW (by omega), ← List.nil_append (jn ps (i + 1)), ← fX [] hp, List.nil_append, ← hz]; rfl)⟩
   ·simp only [ptP] at hpp
    have hok : oH k := by simpa only [Pt.ok] using hok
    have hik := fR hok
    repeat apply aA
    apply aB
    refine v0 ?_
    refine v1 (hc := pM.h {}) ?_
    iterate 3 refine v0 ?_
    apply aC
    refine cl [0, 4, 5, 9, 10, 11] ?_
    repeat apply aA
    apply aB
    iterate 2 refine v0 ?_
    apply aC
    repeat apply aA
    refine cB (k1 := fun hb3 => ?_) (k0 := fun hb3 => ?_)
    ·replace hb3 := hB.h {} hb3
     repeat apply aA
     apply aB
     iterate 3 refine v0 ?_
     refine oc0 [(0, 0), (1, 3000)] [] [0, 0] none (spec := tK (jn ps i) 32 (by have := fD hps i; omega)) (hent := tJ) ?_
     apply aC
     refine cl [0, 5, 9, 10, 11] ?_
     repeat apply aA
     obtain ⟨z, hz⟩ : ∃ z, z = jn ps i ++ sep i := ⟨_, rfl⟩
     have hzl : z.length ≤ 901100 := by have := fD hps i; have := gJ i; rw [hz, List.length_append]; omega
     first | rw [show jn ps i ++ [32] = z by rw [hz, qD (by omega)]] | rw [show jn ps i = z by rw [hz, sP (by omega), List.append_nil]]
     apply aB
     refine v0 ?_
     apply aC
     refine cl [0, 9, 10, 11, 22] ?_
     repeat apply aA
     refine aP ?_
     repeat apply aA
     apply aB
     iterate 2 refine v0 ?_
     refine rb 24 false (h := by (rfl)) ?_
     refine v0 ?_
     apply aC
     repeat apply aA
     refine cF ?_
     repeat apply aA
     apply aB
     iterate 2 refine v0 ?_
     refine rb 32 true (h := by (rfl)) ?_
     refine v0 ?_
     apply aC
     repeat apply aA
     refine cT ?_
     repeat apply aA
     apply aB
     refine v0 ?_
     apply aC
     refine cl [0, 7, 9, 10, 11] ?_
     repeat apply aA
     refine rd ?_
     refine d0 0 ?_
     refine d0 1 ?_
     refine d0 2 ?_
     refine d0 3 ?_
     refine oT 4 (spec := iO k hok.1 hok.2) (hent := iQ) ?_
     refine eO 5 [(0, 0), (1, 3000)] [] [0, 0] none (spec := mU z (Lib.itoa k) (by omega) (by omega)) (hent := iP) ?_
     refine dz 6 [0, 1, 3, 0, 8, 31] ?_
     refine de 6 ?_
     refine cl [0, 9, 10, 11] ?_
     repeat apply aA
     apply aB
     refine v1 (hc := pM.h {}) ?_
     refine v0 ?_
     apply aC
     refine eC [0, 9, 10, 11] (h := ?_) (hV := ?_) (n' := mz - 1)
     ·omega
     first
     | exact ⟨0 + 1, by omega, by omega, sgE rfl (by rw [qW (by omega), Nat.zero_add, aCW hp]; rfl)⟩
     | exact ⟨i + 1, by omega, by omega, sgE rfl (by rw [qW (by omega), ← List.nil_append (jn ps (i + 1)), ← fX [] hp, List.nil_append, ← hz]; rfl)⟩
    ·replace hb3 := hB.h {} hb3
     repeat apply aA
     refine aR ?_
     refine cl [0, 5, 9, 10, 11] ?_
     repeat apply aA
     obtain ⟨z, hz⟩ : ∃ z, z = jn ps i ++ sep i := ⟨_, rfl⟩
     have hzl : z.length ≤ 901100 := by have := fD hps i; have := gJ i; rw [hz, List.length_append]; omega
     first | rw [show jn ps i ++ [32] = z by rw [hz, qD (by omega)]] | rw [show jn ps i = z by rw [hz, sP (by omega), List.append_nil]]
     apply aB
     refine v0 ?_
     apply aC
     refine cl [0, 9, 10, 11, 22] ?_
     repeat apply aA
     refine aP ?_
     repeat apply aA
     apply aB
     iterate 2 refine v0 ?_
     refine rb 24 false (h := by (rfl)) ?_
     refine v0 ?_
     apply aC
     repeat apply aA
     refine cF ?_
     repeat apply aA
     apply aB
     iterate 2 refine v0 ?_
     refine rb 32 true (h := by (rfl)) ?_
     refine v0 ?_
     apply aC
     repeat apply aA
     refine cT ?_
     repeat apply aA
     apply aB
     refine v0 ?_
     apply aC
     refine cl [0, 7, 9, 10, 11] ?_
     repeat apply aA
     refine rd ?_
     refine d0 0 ?_
     refine d0 1 ?_
     refine d0 2 ?_
     refine d0 3 ?_
     refine oT 4 (spec := iO k hok.1 hok.2) (hent := iQ) ?_
     refine eO 5 [(0, 0), (1, 3000)] [] [0, 0] none (spec := mU z (Lib.itoa k) (by omega) (by omega)) (hent := iP) ?_
     refine dz 6 [0, 1, 3, 0, 8, 31] ?_
     refine de 6 ?_
     refine cl [0, 9, 10, 11] ?_
     repeat apply aA
     apply aB
     refine v1 (hc := pM.h {}) ?_
     refine v0 ?_
     apply aC
     refine eC [0, 9, 10, 11] (h := ?_) (hV := ?_) (n' := mz - 1)
     ·omega
     first
     | exact ⟨0 + 1, by omega, by omega, sgE rfl (by rw [qW (by omega), Nat.zero_add, aCW hp]; rfl)⟩
     | exact ⟨i + 1, by omega, by omega, sgE rfl (by rw [qW (by omega), ← List.nil_append (jn ps (i + 1)), ← fX [] hp, List.nil_append, ← hz]; rfl)⟩
   ·simp only [ptP] at hpp
    have hok : oH a ∧ oH b := by simpa only [Pt.ok] using hok
    have hia := fR hok.1
    have hib := fR hok.2
    have hiab : (Lib.itoa a ++ [44] ++ Lib.itoa b).length ≤ 100 := by simp only [List.length_append, List.length_cons, List.length_nil]; omega
    repeat apply aA
    apply aB
    refine v0 ?_
    refine v1 (hc := pM.h {}) ?_
    iterate 3 refine v0 ?_
    apply aC
    refine cl [0, 4, 5, 9, 10, 11] ?_
    repeat apply aA
    apply aB
    iterate 2 refine v0 ?_
    apply aC
    repeat apply aA
    refine cB (k1 := fun hb4 => ?_) (k0 := fun hb4 => ?_)
    ·replace hb4 := hB.h {} hb4
     repeat apply aA
     apply aB
     iterate 3 refine v0 ?_
     refine oc0 [(0, 0), (1, 3000)] [] [0, 0] none (spec := tK (jn ps i) 32 (by have := fD hps i; omega)) (hent := tJ) ?_
     apply aC
     refine cl [0, 5, 9, 10, 11] ?_
     repeat apply aA
     obtain ⟨z, hz⟩ : ∃ z, z = jn ps i ++ sep i := ⟨_, rfl⟩
     have hzl : z.length ≤ 901100 := by have := fD hps i; have := gJ i; rw [hz, List.length_append]; omega
     first | rw [show jn ps i ++ [32] = z by rw [hz, qD (by omega)]] | rw [show jn ps i = z by rw [hz, sP (by omega), List.append_nil]]
     apply aB
     refine v0 ?_
     apply aC
     refine cl [0, 9, 10, 11, 22] ?_
     repeat apply aA
     refine aP ?_
     repeat apply aA
     apply aB
     iterate 2 refine v0 ?_
     refine rb 24 false (h := by (rfl)) ?_
     refine v0 ?_
     apply aC
     repeat apply aA
     refine cF ?_
     repeat apply aA
     apply aB
     iterate 2 refine v0 ?_
     refine rb 32 false (h := by (rfl)) ?_
     refine v0 ?_
     apply aC
     repeat apply aA
     refine cF ?_
     repeat apply aA
     apply aB
     iterate 2 refine v0 ?_
     refine rb 41 true (h := by (rfl)) ?_
     refine v0 ?_
     apply aC
     repeat apply aA
     refine cT ?_
     repeat apply aA
     apply aB
     refine n1 180 false (hc := pM.h {}) ?_
     refine s1 (hc := pM.h {}) ?_
     apply aC
     refine cl [0, 8, 9, 10, 11] ?_
     repeat apply aA
     refine rd ?_
     refine d0 0 ?_
     refine d0 1 ?_
     refine d0 2 ?_
     refine d0 3 ?_
     refine d0 4 ?_
     refine oT 5 (spec := iO a hok.1.1 hok.1.2) (hent := iQ) ?_
     refine d1 6 (hc := by (omega)) ?_
     refine d0 7 ?_
     refine d0 8 ?_
     refine oT 9 (spec := iO b hok.2.1 hok.2.2) (hent := iQ) ?_
     refine d1 10 (hc := by (simp only [List.length_append, List.length_cons, List.length_nil]; omega)) ?_
     refine eO 11 [(0, 0), (1, 3000)] [] [0, 0] none (spec := mU z (Lib.itoa a ++ [44] ++ Lib.itoa b) (by omega) (by omega)) (hent := iP) ?_
     refine dz 12 [0, 1, 3, 0, 8, 24, 56, 0, 128, 440, 1016, 2047] ?_
     refine de 12 ?_
     refine cl [0, 9, 10, 11] ?_
     repeat apply aA
     apply aB
     refine v1 (hc := pM.h {}) ?_
     refine v0 ?_
     apply aC
     refine eC [0, 9, 10, 11] (h := ?_) (hV := ?_) (n' := mz - 1)
     ·omega
     first
     | exact ⟨0 + 1, by omega, by omega, sgE rfl (by rw [qW (by omega), Nat.zero_add, aCW hp]; rfl)⟩
     | exact ⟨i + 1, by omega, by omega, sgE rfl (by rw [qW (by omega), ← List.nil_append (jn ps (i + 1)), ← fX [] hp, List.nil_append, ← hz]; rfl)⟩
    ·replace hb4 := hB.h {} hb4
     repeat apply aA
     refine aR ?_
     refine cl [0, 5, 9, 10, 11] ?_
     repeat apply aA
     obtain ⟨z, hz⟩ : ∃ z, z = jn ps i ++ sep i := ⟨_, rfl⟩
     have hzl : z.length ≤ 901100 := by have := fD hps i; have := gJ i; rw [hz, List.length_append]; omega
     first | rw [show jn ps i ++ [32] = z by rw [hz, qD (by omega)]] | rw [show jn ps i = z by rw [hz, sP (by omega), List.append_nil]]
     apply aB
     refine v0 ?_
     apply aC
     refine cl [0, 9, 10, 11, 22] ?_
     repeat apply aA
     refine aP ?_
     repeat apply aA
     apply aB
     iterate 2 refine v0 ?_
     refine rb 24 false (h := by (rfl)) ?_
     refine v0 ?_
     apply aC
     repeat apply aA
     refine cF ?_
     repeat apply aA
     apply aB
     iterate 2 refine v0 ?_
     refine rb 32 false (h := by (rfl)) ?_
     refine v0 ?_
     apply aC
     repeat apply aA
     refine cF ?_
     repeat apply aA
     apply aB
     iterate 2 refine v0 ?_
     refine rb 41 true (h := by (rfl)) ?_
     refine v0 ?_
     apply aC
     repeat apply aA
     refine cT ?_
     repeat apply aA
     apply aB
     refine n1 180 false (hc := pM.h {}) ?_
     refine s1 (hc := pM.h {}) ?_
     apply aC
     refine cl [0, 8, 9, 10, 11] ?_
     repeat apply aA
     refine rd ?_
     refine d0 0 ?_
     refine d0 1 ?_
     refine d0 2 ?_
     refine d0 3 ?_
     refine d0 4 ?_
     refine oT 5 (spec := iO a hok.1.1 hok.1.2) (hent := iQ) ?_
     refine d1 6 (hc := by (omega)) ?_
     refine d0 7 ?_
     refine d0 8 ?_
     refine oT 9 (spec := iO b hok.2.1 hok.2.2) (hent := iQ) ?_
     refine d1 10 (hc := by (simp only [List.length_append, List.length_cons, List.length_nil]; omega)) ?_
     refine eO 11 [(0, 0), (1, 3000)] [] [0, 0] none (spec := mU z (Lib.itoa a ++ [44] ++ Lib.itoa b) (by omega) (by omega)) (hent := iP) ?_
     refine dz 12 [0, 1, 3, 0, 8, 24, 56, 0, 128, 440, 1016, 2047] ?_
     refine de 12 ?_
     refine cl [0, 9, 10, 11] ?_
     repeat apply aA
     apply aB
     refine v1 (hc := pM.h {}) ?_
     refine v0 ?_
     apply aC
     refine eC [0, 9, 10, 11] (h := ?_) (hV := ?_) (n' := mz - 1)
     ·omega
     first
     | exact ⟨0 + 1, by omega, by omega, sgE rfl (by rw [qW (by omega), Nat.zero_add, aCW hp]; rfl)⟩
     | exact ⟨i + 1, by omega, by omega, sgE rfl (by rw [qW (by omega), ← List.nil_append (jn ps (i + 1)), ← fX [] hp, List.nil_append, ← hz]; rfl)⟩
  ·replace hb1 := hB.h {} hb1
   repeat apply aA
   refine bV ?_
   repeat (first | refine bH ?_ | refine aY ?_ | refine bC ?_ | refine bI rfl ?_)
   refine cl [0] ?_
   repeat apply aA
   obtain rfl : i = ps.length := by omega
   apply aB
   iterate 3 refine v0 ?_
   refine oc0 [(0, 0), (1, 3000)] [] [0, 0] none (spec := tK (jn ps ps.length) 10 (by have := fD hps ps.length; omega)) (hent := tJ) ?_
   apply aC
   try refine bK ?_
   refine cW ?_
   refine fh0 [0, 3000] ?_
   rw [fL]
end
section
open Go.Gh
variable {E : Env Tryz.prog} {A : E.α}
structure aCX (c : Prop) : Prop where
 h : c := by (first | exact True.intro | omega | omega | (simp only [inI]; omega) | (simp [P.size, bR, bF, bN, bB, cR, good, G.one, P.one, P.cells] <;> first | omega | assumption | simp_all))
structure mV where
 x : Int × Int
 y : Int × Int
 kn : Bool
 e : Int × Int
 n : Int × Int
structure Plt where
 sc : Int × Int
 st : List mV
def eJ (s : mV) : P := .agg [.int .i64 s.x.1, .int .i64 s.x.2, .int .i64 s.y.1, .int .i64 s.y.2, .bool s.kn, .int .i64 s.e.1, .int .i64 s.e.2, .int .i64 s.n.1, .int .i64 s.n.2]
def nF (p : Plt) : P := .agg [.int .i64 p.sc.1, .int .i64 p.sc.2, .list (p.st.map eJ)]
def oJ (s : mV) : List Pt := if s.kn then [.w [115, 116, 97, 114], .sp s.x.1 s.x.2, .sp s.y.1 s.y.2, .w [107, 110, 111, 119, 110], .sp s.e.1 s.e.2, .sp s.n.1 s.n.2] else [.w [115, 116, 97, 114], .sp s.x.1 s.x.2, .sp s.y.1 s.y.2]
def zU (p : Plt) : List Pt := [.w [112, 108, 97, 116, 101], .sp p.sc.1 p.sc.2]
def iA (p : Plt) : List (List Pt) := zU p :: p.st.map oJ
def txt (ls : List (List Pt)) : Str := ls.flatMap fL
def okL (ls : List (List Pt)) : Prop := ∀ l ∈ ls, (∀ p ∈ l, p.ok) ∧ 0 < l.length ∧ l.length ≤ 10
theorem aHf {ps : List Pt} (h : (∀ p ∈ ps, p.ok) ∧ 0 < ps.length ∧ ps.length ≤ 10) : (fL ps).length ≤ 1011 := by
 have := fD h.1 ps.length
 simp only [fL, List.length_append, List.length_cons, List.length_nil]; omega
theorem aGa : ∀ {ls : List (List Pt)}, okL ls → (txt ls).length ≤ 1011 * ls.length
 | [], _ => by simp [txt]
 | l :: ls, h => by
  have h1 := aHf (h l (List.mem_cons_self ..))
  have h2 := aGa (ls := ls) fun x hx => h x (List.mem_cons_of_mem _ hx)
  simp only [txt, List.flatMap_cons, List.length_append, List.length_cons] at h2 ⊢
  omega
theorem aK1 (l : List Pt) : txt [l] = fL l := by simp [txt]
theorem oK {ls : List (List Pt)} {k : Nat} {l : List Pt} (h : ls[k]? = some l) : txt (ls.take k) ++ fL l = txt (ls.take (k + 1)) := by
 have : ls.take (k + 1) = ls.take k ++ [l] := by rw [List.take_add_one, h]; rfl
 rw [this]; simp [txt]
theorem oL {ls : List (List Pt)} (h : okL ls) (k : Nat) : (txt (ls.take k)).length ≤ 1011 * ls.length := by
 have := aGa (ls := ls.take k) fun x hx => h x (List.mem_of_mem_take hx)
 have := List.length_take_le k ls
 have : 1011 * (ls.take k).length ≤ 1011 * ls.length := Nat.mul_le_mul_left _ (by simp [List.length_take]; omega)
 omega
theorem aMP : aJ Tryz.prog 112 := aJ.mk Tryz.func112 (by kernel_rfl) rfl
theorem aFg (p : Plt) (hp : okL (iA p)) (hn : p.st.length ≤ 100) : Gh.bE E 112 [.ref 0 0, .p (nF p)] (aG [(0, .tcells 158 [.p .nilptr, .nils])]) A (fun y => y = .ok (.p (.tuple [])) (aG [(0, .cells [.ref 0 0, .own 3000 (txt (iA p)).length] 0), (3000, .arr 5 1 (u8s (txt (iA p))) false)]) A) := by
 refine spX 50 Tryz.func112 rfl ?_
 intro C hN hL
 simp only [Gh.num, List.map_cons, List.map_nil, Nat.reduceAdd]
 unfold nF
 have hps : ∀ s : mV, eJ s = .agg [.int .i64 s.x.1, .int .i64 s.x.2, .int .i64 s.y.1, .int .i64 s.y.2, .bool s.kn, .int .i64 s.e.1, .int .i64 s.e.2, .int .i64 s.n.1, .int .i64 s.n.2] := fun _ => rfl
 have h1 := hp (zU p) (List.mem_cons_self ..)
 have hpl : (iA p).length = p.st.length + 1 := by simp [iA]
 repeat apply aA
 apply aB
 refine n1 130 false (hc := aCX.h {}) ?_
 apply aC
 refine cl [0, 3] ?_
 repeat apply aA
 apply aB
 iterate 5 refine v0 ?_
 refine n1 210 false (hc := aCX.h {}) ?_
 refine oc0 [(0, 0), (3000, 3000)] [210] [0, 1] none (spec := aA4 (zU p) h1.2.1 h1.1 h1.2.2) (hent := uQ) ?_
 apply aC
 refine cl [0, 3] ?_
 repeat apply aA
 apply aB
 iterate 4 refine v0 ?_
 apply aC
 refine cl [0, 14, 15, 16] ?_
 repeat apply aA
 refine aP ?_
 repeat apply aA
 refine cI (fun mz σ => ∃ k : Nat, (k ≤ p.st.length) ∧ mz = p.st.length - k ∧ σ = (sg [(0, .ref 0 0), (14, .p (.list (p.st.map eJ))), (15, .p (.int .i64 (p.st.length : Nat))), (16, .p (.int .i64 (k : Nat)))] [(0, .cells [.ref 0 0, .own 3000 (txt ((iA p).take (k + 1))).length] 0), (3000, .arr 5 1 (u8s (txt ((iA p).take (k + 1)))) false)] A [] : Sg E)) ?_ (fun mz σ hI => ?_)
 ·refine gA [0, 14, 15, 16] ?_
  exact ⟨_, 0, by omega, rfl, sgE (by simp) (by simp [txt, iA])⟩
 obtain ⟨k, hk, hnn, rfl⟩ := hI
 repeat apply aA
 apply aB
 refine v0 ?_
 apply aC
 repeat apply aA
 refine cB (k1 := fun hb1 => ?_) (k0 := fun hb1 => ?_)
 ·replace hb1 := hB.h {} hb1
  repeat apply aA
  refine aR ?_
  refine cl [0, 14, 15, 16] ?_
  repeat apply aA
  refine aP ?_
  repeat apply aA
  obtain ⟨s, hs⟩ := fQ (l := p.st) (k := k) (by omega)
  have hl : (iA p)[k + 1]? = some (oJ s) := by simp only [iA, List.getElem?_cons_succ, List.getElem?_map, hs, Option.map_some]
  have hol := hp _ (List.mem_of_getElem? hl)
  apply aB
  refine v1 (hc := aCX.h {}) ?_
  refine v0 ?_
  refine n1 150 false (hc := aCX.h {}) ?_
  refine s1 (hc := aCX.h {}) ?_
  apply aC
  refine cl [0, 5, 14, 15, 16] ?_
  repeat apply aA
  apply aB
  iterate 2 refine v0 ?_
  apply aC
  repeat apply aA
  refine cB (k1 := fun hb2 => ?_) (k0 := fun hb2 => ?_)
  ·replace hb2 := hB.h {} hb2
   repeat apply aA
   have hsl : oJ s = [.w [115, 116, 97, 114], .sp s.x.1 s.x.2, .sp s.y.1 s.y.2, .w [107, 110, 111, 119, 110], .sp s.e.1 s.e.2, .sp s.n.1 s.n.2] := if_pos (by assumption)
   rw [hsl] at hol
   apply aB
   iterate 15 refine v0 ?_
   refine n1 470 false (hc := aCX.h {}) ?_
   refine oc0 [(0, 0), (1, 3000)] [470] [0, 1] none (spec := oI (txt ((iA p).take (k + 1))) [.w [115, 116, 97, 114], .sp s.x.1 s.x.2, .sp s.y.1 s.y.2, .w [107, 110, 111, 119, 110], .sp s.e.1 s.e.2, .sp s.n.1 s.n.2] (by have := oL hp (k + 1); rw [hpl] at this; omega) hol.1 hol.2.2) (hent := uQ) ?_
   apply aC
   refine cl [0, 14, 15, 16] ?_
   repeat apply aA
   apply aB
   refine v1 (hc := aCX.h {}) ?_
   refine v0 ?_
   apply aC
   refine eC [0, 14, 15, 16] (h := ?_) (hV := ?_) (n' := p.st.length - (k + 1))
   ·omega
   exact ⟨k + 1, by omega, rfl, sgE rfl (by rw [← oK hl, hsl])⟩
  ·replace hb2 := hB.h {} hb2
   repeat apply aA
   have hsl : oJ s = [.w [115, 116, 97, 114], .sp s.x.1 s.x.2, .sp s.y.1 s.y.2] := if_neg (by simp_all)
   rw [hsl] at hol
   apply aB
   iterate 8 refine v0 ?_
   refine n1 570 false (hc := aCX.h {}) ?_
   refine oc0 [(0, 0), (1, 3000)] [570] [0, 1] none (spec := oI (txt ((iA p).take (k + 1))) [.w [115, 116, 97, 114], .sp s.x.1 s.x.2, .sp s.y.1 s.y.2] (by have := oL hp (k + 1); rw [hpl] at this; omega) hol.1 hol.2.2) (hent := uQ) ?_
   apply aC
   refine cl [0, 14, 15, 16] ?_
   repeat apply aA
   apply aB
   refine v1 (hc := aCX.h {}) ?_
   refine v0 ?_
   apply aC
   refine eC [0, 14, 15, 16] (h := ?_) (hV := ?_) (n' := p.st.length - (k + 1))
   ·omega
   exact ⟨k + 1, by omega, rfl, sgE rfl (by rw [← oK hl, hsl])⟩
 ·replace hb1 := hB.h {} hb1
  repeat apply aA
  refine bV ?_
  repeat (first | refine bH ?_ | refine aY ?_ | refine bC ?_ | refine bI rfl ?_)
  try refine bK ?_
  refine cW ?_
  obtain rfl : k = p.st.length := by omega
  refine fh0 [0, 3000] ?_
  rw [List.take_of_length_le (by simp [iA])]
end
section
open Go.Gh
variable {E : Env Tryz.prog} {A : E.α}
structure jB (c : Prop) : Prop where
 h : c := by (first | exact True.intro | omega | (simp [P.size] <;> first | omega | (intro x a b _ h; subst h; rfl) | (intro x a b d _ h; subst h; rfl) | (intro a _; rfl)) | (simp [P.size]; exact ⟨by omega, fun a _ => rfl⟩) | omega | (simp only [inI]; omega) | (simp [P.size, bR, bF, bN, bB, cR, good, G.one, P.one, P.cells] <;> first | omega | assumption | simp_all))
structure aOd (c : Prop) : Prop where
 h : c := by (first | exact True.intro | omega | (simp only [inI]; omega) | (simp [P.size, bR, bF, bN, bB, cR, good, G.one, P.one, P.cells] <;> first | omega | assumption | simp_all))
structure Chn where
 pl : Int
 ps : Int
 kn : List (Int × Int)
 rs : List (Int × Int × Int)
 ms : Int
structure Stg where
 im : Int
 rd : Int
 rv : Bool
structure Msr where
 im : Int
 su : Int × Int
 ey : Int × Int
 er : List (Int × Int)
 se : List Stg
def pSp (k : Int × Int) : P := .agg [.int .i64 k.1, .int .i64 k.2]
def pRc (r : Int × Int × Int) : P := .agg [.int .i64 r.1, .int .i64 r.2.1, .int .i64 r.2.2]
def fS (s : Stg) : P := .agg [.int .i64 s.im, .int .i64 s.rd, .bool s.rv]
def nG (c : Chn) : P := .agg [.int .i64 c.pl, .int .i64 c.ps, .list (c.kn.map pSp), .list (c.rs.map pRc), .int .i64 c.ms]
def jT (m : Msr) : P := .agg [.list (m.er.map pSp), .int .i64 m.ey.1, .int .i64 m.ey.2, .int .i64 m.im, .int .i64 m.su.1, .int .i64 m.su.2, .list (m.se.map fS)]
def zV (c : Chn) : List Pt := [.w [99, 104, 97, 105, 110], .n c.pl, .n c.ps, .n c.ms]
def knL (k : Int × Int) : List Pt := [.w [107, 110, 111, 119, 115], .n k.1, .n k.2]
def rcL (r : Int × Int × Int) : List Pt := [.w [108, 111, 97, 110], .n r.1, .n r.2.1, .n r.2.2]
def gW (c : Chn) : List (List Pt) := zV c :: (c.kn.map knL ++ c.rs.map rcL)
def zW (m : Msr) : List Pt := [.w [109, 101, 97, 115, 117, 114, 101], .n m.im, .sp m.su.1 m.su.2, .sp m.ey.1 m.ey.2]
def erL (e : Int × Int) : List Pt := [.w [116, 117, 114, 110], .sp e.1 e.2]
def aK2 (b : Bool) : Str := if b then [114, 101, 118, 101, 114, 115, 101, 100] else [112, 108, 97, 105, 110]
def seL (s : Stg) : List Pt := [.w (aK2 s.rv), .n s.im, .n s.rd]
def gK (m : Msr) : List (List Pt) := zW m :: (m.er.map erL ++ m.se.map seL)
theorem aLz {α β γ : Type} {f : α → γ} {g : β → γ} {h : γ} {xs : List α} {ys : List β} {k : Nat} {a : α} (e : xs[k]? = some a) : (h :: (xs.map f ++ ys.map g))[k + 1]? = some (f a) := by
 have := List.getElem?_eq_some_iff.1 e
 rw [List.getElem?_cons_succ, List.getElem?_append_left (by rw [List.length_map]; exact this.1), List.getElem?_map, e]; rfl
theorem aLA {α β γ : Type} {f : α → γ} {g : β → γ} {h : γ} {xs : List α} {ys : List β} {k : Nat} {b : β} (e : ys[k]? = some b) : (h :: (xs.map f ++ ys.map g))[xs.length + k + 1]? = some (g b) := by
 rw [List.getElem?_cons_succ, List.getElem?_append_right (by rw [List.length_map]; omega), List.length_map, Nat.add_sub_cancel_left, List.getElem?_map, e]; rfl
theorem aMQ : aJ Tryz.prog 120 := aJ.mk Tryz.func120 (by kernel_rfl) rfl
theorem aFh (c : Chn) (hp : okL (gW c)) (hn : c.kn.length ≤ 200) (hn2 : c.rs.length ≤ 200) : Gh.bE E 120 [.ref 0 0, .p (nG c)] (aG [(0, .tcells 158 [.p .nilptr, .nils])]) A (fun y => y = .ok (.p (.tuple [])) (aG [(0, .cells [.ref 0 0, .own 3000 (txt (gW c)).length] 0), (3000, .arr 5 1 (u8s (txt (gW c))) false)]) A) := by
 refine spX 60 Tryz.func120 rfl ?_
 intro C hN hL
 simp only [Gh.num, List.map_cons, List.map_nil, Nat.reduceAdd]
 unfold nG
 have hpsp : ∀ s : Int × Int, pSp s = .agg [.int .i64 s.1, .int .i64 s.2] := fun _ => rfl
 have hprc : ∀ s : Int × Int × Int, pRc s = .agg [.int .i64 s.1, .int .i64 s.2.1, .int .i64 s.2.2] := fun _ => rfl
 have h1 := hp (zV c) (List.mem_cons_self ..)
 have hpl : (gW c).length = c.kn.length + c.rs.length + 1 := by simp [gW]
 repeat apply aA
 apply aB
 refine n1 130 false (hc := jB.h {}) ?_
 apply aC
 refine cl [0, 3] ?_
 repeat apply aA
 apply aB
 iterate 11 refine v0 ?_
 refine n1 290 false (hc := jB.h {}) ?_
 refine oc0 [(0, 0), (3000, 3000)] [290] [0, 1] none (spec := aA4 (zV c) h1.2.1 h1.1 h1.2.2) (hent := uQ) ?_
 apply aC
 refine cl [0, 3] ?_
 repeat apply aA
 apply aB
 iterate 4 refine v0 ?_
 apply aC
 refine cl [0, 3, 22, 23, 24] ?_
 repeat apply aA
 refine aP ?_
 repeat apply aA
 refine cI (fun mz σ => ∃ k : Nat, (k ≤ c.kn.length) ∧ mz = c.kn.length - k ∧ σ = (sg [(0, .ref 0 0), (3, .ref 130 0), (22, .p (.list (c.kn.map pSp))), (23, .p (.int .i64 (c.kn.length : Nat))), (24, .p (.int .i64 (k : Nat)))] [(0, .cells [.ref 0 0, .own 3000 (txt ((gW c).take (k + 1))).length] 0), (130, .cells [.p (.int .i64 c.pl), .p (.int .i64 c.ps), .p (.list (c.kn.map pSp)), .p (.list (c.rs.map pRc)), .p (.int .i64 c.ms)] 0), (3000, .arr 5 1 (u8s (txt ((gW c).take (k + 1)))) false)] A [] : Sg E)) ?_ (fun mz σ hI => ?_)
 ·refine gA [0, 3, 22, 23, 24] ?_
  exact ⟨_, 0, by omega, rfl, sgE (by simp) (by simp [txt, gW])⟩
 obtain ⟨k, hk, hnn, rfl⟩ := hI
 repeat apply aA
 apply aB
 refine v0 ?_
 apply aC
 repeat apply aA
 refine cB (k1 := fun hb1 => ?_) (k0 := fun hb1 => ?_)
 ·replace hb1 := hB.h {} hb1
  repeat apply aA
  refine aR ?_
  refine cl [0, 3, 22, 23, 24] ?_
  repeat apply aA
  refine aP ?_
  repeat apply aA
  obtain ⟨x, hx⟩ := fQ (l := c.kn) (k := k) (by omega)
  have hl : (gW c)[k + 1]? = some (knL x) := aLz hx
  have hol := hp _ (List.mem_of_getElem? hl)
  apply aB
  refine v1 (hc := jB.h {}) ?_
  refine v0 ?_
  refine n1 150 false (hc := jB.h {}) ?_
  refine s1 (hc := jB.h {}) ?_
  apply aC
  refine cl [0, 3, 5, 22, 23, 24] ?_
  repeat apply aA
  apply aB
  iterate 2 refine v0 ?_
  refine v1 (hc := jB.h {}) ?_
  iterate 2 refine v0 ?_
  refine v1 (hc := jB.h {}) ?_
  iterate 2 refine v0 ?_
  refine n1 460 false (hc := jB.h {}) ?_
  refine oc0 [(0, 0), (1, 3000)] [460] [0, 1] none (spec := oI (txt ((gW c).take (k + 1))) _ (by have := oL hp (k + 1); rw [hpl] at this; omega) hol.1 hol.2.2) (hent := uQ) ?_
  apply aC
  refine cl [0, 3, 22, 23, 24] ?_
  repeat apply aA
  apply aB
  refine v1 (hc := jB.h {}) ?_
  refine v0 ?_
  apply aC
  refine eC [0, 3, 22, 23, 24] (h := ?_) (hV := ?_) (n' := c.kn.length - (k + 1))
  ·omega
  exact ⟨k + 1, by omega, rfl, sgE rfl (by rw [← oK hl])⟩
 ·replace hb1 := hB.h {} hb1
  repeat apply aA
  refine bV ?_
  repeat (first | refine bH ?_ | refine aY ?_ | refine bC ?_ | refine bI rfl ?_)
  refine cl [0, 3] ?_
  repeat apply aA
  apply aB
  iterate 4 refine v0 ?_
  apply aC
  refine cl [0, 40, 41, 42] ?_
  repeat apply aA
  refine aP ?_
  repeat apply aA
  refine cI (fun mz σ => ∃ k : Nat, (k ≤ c.rs.length) ∧ mz = c.rs.length - k ∧ σ = (sg [(0, .ref 0 0), (40, .p (.list (c.rs.map pRc))), (41, .p (.int .i64 (c.rs.length : Nat))), (42, .p (.int .i64 (k : Nat)))] [(0, .cells [.ref 0 0, .own 3000 (txt ((gW c).take (c.kn.length + k + 1))).length] 0), (3000, .arr 5 1 (u8s (txt ((gW c).take (c.kn.length + k + 1)))) false)] A [] : Sg E)) ?_ (fun mz σ hI => ?_)
  ·refine gA [0, 40, 41, 42] ?_
   obtain rfl : k = c.kn.length := by omega
   exact ⟨_, 0, by omega, rfl, sgE (by simp) rfl⟩
  obtain ⟨k, hk, hnn, rfl⟩ := hI
  repeat apply aA
  apply aB
  refine v0 ?_
  apply aC
  repeat apply aA
  refine cB (k1 := fun hb2 => ?_) (k0 := fun hb2 => ?_)
  ·replace hb2 := hB.h {} hb2
   repeat apply aA
   refine aR ?_
   refine cl [0, 40, 41, 42] ?_
   repeat apply aA
   refine aP ?_
   repeat apply aA
   obtain ⟨x, hx⟩ := fQ (l := c.rs) (k := k) (by omega)
   have hl : (gW c)[c.kn.length + k + 1]? = some (rcL x) := aLA hx
   have hol := hp _ (List.mem_of_getElem? hl)
   apply aB
   refine v1 (hc := jB.h {}) ?_
   refine v0 ?_
   refine n1 170 false (hc := jB.h {}) ?_
   refine s1 (hc := jB.h {}) ?_
   apply aC
   refine cl [0, 7, 40, 41, 42] ?_
   repeat apply aA
   apply aB
   iterate 11 refine v0 ?_
   refine n1 670 false (hc := jB.h {}) ?_
   refine oc0 [(0, 0), (1, 3000)] [670] [0, 1] none (spec := oI (txt ((gW c).take (c.kn.length + k + 1))) _ (by have := oL hp (c.kn.length + k + 1); rw [hpl] at this; omega) hol.1 hol.2.2) (hent := uQ) ?_
   apply aC
   refine cl [0, 40, 41, 42] ?_
   repeat apply aA
   apply aB
   refine v1 (hc := jB.h {}) ?_
   refine v0 ?_
   apply aC
   refine eC [0, 40, 41, 42] (h := ?_) (hV := ?_) (n' := c.rs.length - (k + 1))
   ·omega
   exact ⟨k + 1, by omega, rfl, sgE rfl (by rw [← Nat.add_assoc, ← oK hl])⟩
  ·replace hb2 := hB.h {} hb2
   repeat apply aA
   refine bV ?_
   repeat (first | refine bH ?_ | refine aY ?_ | refine bC ?_ | refine bI rfl ?_)
   try refine bK ?_
   refine cW ?_
   obtain rfl : k = c.rs.length := by omega
   refine fh0 [0, 3000] ?_
   rw [List.take_of_length_le (by omega)]
theorem aJb : aJ Tryz.prog 97 := aJ.mk Tryz.func97 (by kernel_rfl) rfl
theorem aFi  : bZ Tryz.prog 97 [] (.ok (.agg [.str [112, 108, 97, 105, 110], .str [114, 101, 118, 101, 114, 115, 101, 100]])) := by
 refine bS Tryz.func97 (rfl : Tryz.f97.body = some _) rfl ?_
 intro E A C hN hL
 replace hN : C.N = 2 := hN
 simp only [Gh.num, List.map_cons, List.map_nil, Nat.reduceAdd]
 repeat apply aA
 apply aB
 refine n1 100 false (hc := aOd.h {}) ?_
 apply aC
 refine cl [0] ?_
 repeat apply aA
 apply aB
 refine v0 ?_
 refine s1 (hc := aOd.h {}) ?_
 apply aC
 repeat apply aA
 refine aL ?_
 repeat (first | refine aH ?_ | refine aF ?_ | refine aD ?_)
 refine aM ?_
 refine fp ?_
 rfl
theorem aOe : aJ Tryz.prog 95 := aJ.mk Tryz.func95 (by kernel_rfl) rfl
theorem aFj (m : Msr) (hp : okL (gK m)) (hn : m.er.length ≤ 200) (hn2 : m.se.length ≤ 200) : Gh.bE E 95 [.ref 0 0, .p (jT m)] (aG [(0, .tcells 158 [.p .nilptr, .nils])]) A (fun y => y = .ok (.p (.tuple [])) (aG [(0, .cells [.ref 0 0, .own 3000 (txt (gK m)).length] 0), (3000, .arr 5 1 (u8s (txt (gK m))) false)]) A) := by
 refine spX 64 Tryz.func95 rfl ?_
 intro C hN hL
 simp only [Gh.num, List.map_cons, List.map_nil, Nat.reduceAdd]
 unfold jT
 have hpsp : ∀ s : Int × Int, pSp s = .agg [.int .i64 s.1, .int .i64 s.2] := fun _ => rfl
 have hpsg : ∀ s : Stg, fS s = .agg [.int .i64 s.im, .int .i64 s.rd, .bool s.rv] := fun _ => rfl
 have h1 := hp (zW m) (List.mem_cons_self ..)
 have hpl : (gK m).length = m.er.length + m.se.length + 1 := by simp [gK]
 repeat apply aA
 apply aB
 refine n1 130 false (hc := jB.h {}) ?_
 apply aC
 refine cl [0, 3] ?_
 repeat apply aA
 apply aB
 iterate 3 refine v0 ?_
 apply aC
 refine cl [0, 3, 4] ?_
 repeat apply aA
 apply aB
 iterate 12 refine v0 ?_
 refine n1 340 false (hc := jB.h {}) ?_
 refine oc0 [(0, 0), (3000, 3000)] [340] [0, 1] none (spec := aA4 (zW m) h1.2.1 h1.1 h1.2.2) (hent := uQ) ?_
 apply aC
 refine cl [0, 3, 4] ?_
 repeat apply aA
 apply aB
 iterate 5 refine v0 ?_
 apply aC
 refine cl [0, 3, 4, 28, 29, 30] ?_
 repeat apply aA
 refine aP ?_
 repeat apply aA
 refine cI (fun mz σ => ∃ k : Nat, (k ≤ m.er.length) ∧ mz = m.er.length - k ∧ σ = (sg [(0, .ref 0 0), (3, .ref 130 0), (4, .fn (.func 96) [.ref 0 0] []), (28, .p (.list (m.er.map pSp))), (29, .p (.int .i64 (m.er.length : Nat))), (30, .p (.int .i64 (k : Nat)))] [(0, .cells [.ref 0 0, .own 3000 (txt ((gK m).take (k + 1))).length] 0), (130, .cells [.p (.list (m.er.map pSp)), .p (.int .i64 m.ey.1), .p (.int .i64 m.ey.2), .p (.int .i64 m.im), .p (.int .i64 m.su.1), .p (.int .i64 m.su.2), .p (.list (m.se.map fS))] 0), (3000, .arr 5 1 (u8s (txt ((gK m).take (k + 1)))) false)] A [] : Sg E)) ?_ (fun mz σ hI => ?_)
 ·refine gA [0, 3, 4, 28, 29, 30] ?_
  exact ⟨_, 0, by omega, rfl, sgE (by simp) (by simp [txt, gK])⟩
 obtain ⟨k, hk, hnn, rfl⟩ := hI
 repeat apply aA
 apply aB
 refine v0 ?_
 apply aC
 repeat apply aA
 refine cB (k1 := fun hb1 => ?_) (k0 := fun hb1 => ?_)
 ·replace hb1 := hB.h {} hb1
  repeat apply aA
  refine aR ?_
  refine cl [0, 3, 4, 28, 29, 30] ?_
  repeat apply aA
  refine aP ?_
  repeat apply aA
  obtain ⟨x, hx⟩ := fQ (l := m.er) (k := k) (by omega)
  have hl : (gK m)[k + 1]? = some (erL x) := aLz hx
  have hol := hp _ (List.mem_of_getElem? hl)
  apply aB
  refine v1 (hc := jB.h {}) ?_
  refine v0 ?_
  refine n1 160 false (hc := jB.h {}) ?_
  refine s1 (hc := jB.h {}) ?_
  apply aC
  refine cl [0, 3, 4, 6, 28, 29, 30] ?_
  repeat apply aA
  apply aB
  iterate 4 refine v0 ?_
  refine n1 480 false (hc := jB.h {}) ?_
  refine oc0 [(0, 0), (1, 3000)] [480] [0, 1] none (spec := oI (txt ((gK m).take (k + 1))) _ (by have := oL hp (k + 1); rw [hpl] at this; omega) hol.1 hol.2.2) (hent := uQ) ?_
  apply aC
  refine cl [0, 3, 4, 28, 29, 30] ?_
  repeat apply aA
  apply aB
  refine v1 (hc := jB.h {}) ?_
  refine v0 ?_
  apply aC
  refine eC [0, 3, 4, 28, 29, 30] (h := ?_) (hV := ?_) (n' := m.er.length - (k + 1))
  ·omega
  exact ⟨k + 1, by omega, rfl, sgE rfl (by rw [← oK hl])⟩
 ·replace hb1 := hB.h {} hb1
  repeat apply aA
  refine bV ?_
  repeat (first | refine bH ?_ | refine aY ?_ | refine bC ?_ | refine bI rfl ?_)
  refine cl [0, 3, 4] ?_
  repeat apply aA
  apply aB
  iterate 4 refine v0 ?_
  apply aC
  refine cl [0, 4, 42, 43, 44] ?_
  repeat apply aA
  refine aP ?_
  repeat apply aA
  refine cI (fun mz σ => ∃ k : Nat, (k ≤ m.se.length) ∧ mz = m.se.length - k ∧ σ = (sg [(0, .ref 0 0), (4, .fn (.func 96) [.ref 0 0] []), (42, .p (.list (m.se.map fS))), (43, .p (.int .i64 (m.se.length : Nat))), (44, .p (.int .i64 (k : Nat)))] [(0, .cells [.ref 0 0, .own 3000 (txt ((gK m).take (m.er.length + k + 1))).length] 0), (3000, .arr 5 1 (u8s (txt ((gK m).take (m.er.length + k + 1)))) false)] A [] : Sg E)) ?_ (fun mz σ hI => ?_)
  ·refine gA [0, 4, 42, 43, 44] ?_
   obtain rfl : k = m.er.length := by omega
   exact ⟨_, 0, by omega, rfl, sgE (by simp) rfl⟩
  obtain ⟨k, hk, hnn, rfl⟩ := hI
  repeat apply aA
  apply aB
  refine v0 ?_
  apply aC
  repeat apply aA
  refine cB (k1 := fun hb2 => ?_) (k0 := fun hb2 => ?_)
  ·replace hb2 := hB.h {} hb2
   repeat apply aA
   refine aR ?_
   refine cl [0, 4, 42, 43, 44] ?_
   repeat apply aA
   refine aP ?_
   repeat apply aA
   obtain ⟨x, hx⟩ := fQ (l := m.se) (k := k) (by omega)
   have hl : (gK m)[m.er.length + k + 1]? = some (seL x) := aLA hx
   have hol := hp _ (List.mem_of_getElem? hl)
   apply aB
   refine v1 (hc := jB.h {}) ?_
   refine v0 ?_
   refine n1 180 false (hc := jB.h {}) ?_
   refine s1 (hc := jB.h {}) ?_
   apply aC
   refine cl [0, 4, 8, 42, 43, 44] ?_
   repeat apply aA
   apply aB
   refine v0 ?_
   apply aC
   refine cl [0, 4, 8, 9, 42, 43, 44] ?_
   repeat apply aA
   apply aB
   iterate 2 refine v0 ?_
   apply aC
   repeat apply aA
   refine cB (k1 := fun hb3 => ?_) (k0 := fun hb3 => ?_)
   ·replace hb3 := hB.h {} hb3
    repeat apply aA
    apply aB
    refine v0 ?_
    apply aC
    refine cl [0, 4, 8, 9, 42, 43, 44] ?_
    repeat apply aA
    first | (have hv : x.rv = true := by assumption) | (have hv : x.rv = false := by assumption)
    obtain ⟨xi, xr, xv⟩ := x
    simp only at hv
    subst hv
    refine rd ?_
    refine d0 0 ?_
    refine oT 1 (spec := aFi) (hent := aJb) ?_
    refine d0 2 ?_
    refine d1 3 (hc := jB.h {}) ?_
    refine d0 4 ?_
    refine d0 5 ?_
    refine d0 6 ?_
    refine d0 7 ?_
    refine d0 8 ?_
    refine d0 9 ?_
    refine d0 10 ?_
    refine dn1 11 710 false (hc := jB.h {}) ?_
    refine eO 12 [(0, 0), (1, 3000)] [710] [0, 1] none (spec := oI (txt ((gK m).take (m.er.length + k + 1))) _ (by have := oL hp (m.er.length + k + 1); rw [hpl] at this; omega) hol.1 hol.2.2) (hent := uQ) ?_
    refine dz 13 [0, 0, 0, 6, 14, 0, 32, 96, 0, 256, 768, 2046, 4095] ?_
    refine de 13 ?_
    refine cl [0, 4, 42, 43, 44] ?_
    repeat apply aA
    apply aB
    refine v1 (hc := jB.h {}) ?_
    refine v0 ?_
    apply aC
    refine eC [0, 4, 42, 43, 44] (h := ?_) (hV := ?_) (n' := m.se.length - (k + 1))
    ·omega
    exact ⟨k + 1, by omega, rfl, sgE rfl (by rw [← Nat.add_assoc, ← oK hl])⟩
   ·replace hb3 := hB.h {} hb3
    repeat apply aA
    refine aR ?_
    refine cl [0, 4, 8, 9, 42, 43, 44] ?_
    repeat apply aA
    first | (have hv : x.rv = true := by assumption) | (have hv : x.rv = false := by assumption)
    obtain ⟨xi, xr, xv⟩ := x
    simp only at hv
    subst hv
    refine rd ?_
    refine d0 0 ?_
    refine oT 1 (spec := aFi) (hent := aJb) ?_
    refine d0 2 ?_
    refine d1 3 (hc := jB.h {}) ?_
    refine d0 4 ?_
    refine d0 5 ?_
    refine d0 6 ?_
    refine d0 7 ?_
    refine d0 8 ?_
    refine d0 9 ?_
    refine d0 10 ?_
    refine dn1 11 710 false (hc := jB.h {}) ?_
    refine eO 12 [(0, 0), (1, 3000)] [710] [0, 1] none (spec := oI (txt ((gK m).take (m.er.length + k + 1))) _ (by have := oL hp (m.er.length + k + 1); rw [hpl] at this; omega) hol.1 hol.2.2) (hent := uQ) ?_
    refine dz 13 [0, 0, 0, 6, 14, 0, 32, 96, 0, 256, 768, 2046, 4095] ?_
    refine de 13 ?_
    refine cl [0, 4, 42, 43, 44] ?_
    repeat apply aA
    apply aB
    refine v1 (hc := jB.h {}) ?_
    refine v0 ?_
    apply aC
    refine eC [0, 4, 42, 43, 44] (h := ?_) (hV := ?_) (n' := m.se.length - (k + 1))
    ·omega
    exact ⟨k + 1, by omega, rfl, sgE rfl (by rw [← Nat.add_assoc, ← oK hl])⟩
  ·replace hb2 := hB.h {} hb2
   repeat apply aA
   refine bV ?_
   repeat (first | refine bH ?_ | refine aY ?_ | refine bC ?_ | refine bI rfl ?_)
   try refine bK ?_
   refine cW ?_
   obtain rfl : k = m.se.length := by omega
   refine fh0 [0, 3000] ?_
   rw [List.take_of_length_le (by omega)]
end
section
open Go.Gh
variable {E : Env Tryz.prog} {A : E.α}
structure aEa (c : Prop) : Prop where
 h : c := by (first | exact True.intro | omega | (simp only [inI]; omega) | (simp [P.size, bR, bF, bN, bB, cR, good, G.one, P.one, P.cells] <;> first | omega | assumption | simp_all))
structure aOf (c : Prop) : Prop where
 h : c := by (first | exact True.intro | omega | (simp [P.size] <;> first | omega | (intro x a b _ h; subst h; rfl) | (intro x a b d _ h; subst h; rfl) | (intro a _; rfl)) | (simp [P.size]; exact ⟨by omega, fun a _ => rfl⟩) | omega | (simp only [inI]; omega) | (simp [P.size, bR, bF, bN, bB, cR, good, G.one, P.one, P.cells] <;> first | omega | assumption | simp_all))
def kZ {α : Type} (q : α → Bool) : List α → Nat → Int
 | [], _ => -1
 | z :: zs, k => if q z then k else kZ q zs (k + 1)
theorem fB {α : Type} {q : α → Bool} {l : List α} {k : Nat} {x : α} (h : l[k]? = some x) : kZ q (l.drop k) k = if q x then (k : Int) else kZ q (l.drop (k + 1)) (k + 1) := by
 obtain ⟨hk, e⟩ := List.getElem?_eq_some_iff.1 h
 rw [List.drop_eq_getElem_cons hk, e]; rfl
theorem aA5 {α : Type} (q : α → Bool) : ∀ (l : List α) (k : Nat), 0 ≤ kZ q l k ↔ l.any q = true
 | [], k => by simp [kZ]
 | z :: zs, k => by
  simp only [kZ, List.any_cons]
  by_cases h : q z = true
  ·rw [if_pos h, h]; simp
  ·rw [if_neg h, aA5 q zs (k + 1), show q z = false by simpa using h, Bool.false_or]
theorem nN {α : Type} (q : α → Bool) (l : List α) (k : Nat) : decide (0 ≤ kZ q l k) = l.any q := by
 by_cases h : 0 ≤ kZ q l k
 ·rw [decide_eq_true h, (aA5 q l k).1 h]
 ·rw [decide_eq_false h]
  cases e : l.any q with
  | false => rfl
  | true => exact absurd ((aA5 q l k).2 e) h
theorem aOg : Tryz.prog.underlying 24 = some (.struct #[⟨"Lo",3,0,false,"","",0⟩, ⟨"Hi",3,1,false,"","",8⟩]) := by kernel_rfl
theorem aPa : Tryz.prog.underlying 3 = some (.int .i64) := by kernel_rfl
theorem qE (d : Nat) (a c : Int) : geq Tryz.prog (d + 1) 3 (.int .i64 a) (.int .i64 c) = some (decide (a = c)) := by
 unfold geq
 rw [aPa]
 rfl
theorem qF (d : Nat) (a b c e : Int) : geq Tryz.prog (d + 2) 24 (.agg [.int .i64 a, .int .i64 b]) (.agg [.int .i64 c, .int .i64 e]) = some (decide (a = c) && (decide (b = e) && true)) := by
 unfold geq
 rw [aOg]
 have hs : Tryz.prog.stoodInHeld 24 = false := by kernel_rfl
 have p0 : ∀ u v : Int, dC Tryz.prog 3 [.int .i64 u, .int .i64 v] 0 = some (.int .i64 u) := fun u v => by unfold dC; rw [oS]; rfl
 have p1 : ∀ u v : Int, dC Tryz.prog 3 [.int .i64 u, .int .i64 v] 1 = some (.int .i64 v) := fun u v => by unfold dC; rw [oS]; rfl
 simp only [hs, Bool.false_eq_true, if_false, List.map_cons, List.map_nil, p0, p1, qE]
 rfl
def spB (lo hi : Int) (s : Int × Int) : Bool := decide (lo ≤ s.1) && decide (s.1 ≤ s.2) && decide (s.2 ≤ hi)
def jY (s : Int × Int) : Bool := decide (s.1 = 0) && decide (s.2 = 0)
def jO (s : mV) : Bool := (s.kn && spB (-1048576) 1048576 s.e && spB (-1048576) 1048576 s.n) || (!s.kn && jY s.e && jY s.n)
def fC (s : mV) : Bool := !(spB 0 32768 s.x) || !(spB 0 32768 s.y) || !jO s
def Plt.valid (p : Plt) : Bool := spB 1 1000 p.sc && decide ((p.st.length : Int) ≤ 10) && !p.st.any fC
theorem pN : aJ Tryz.prog 149 := aJ.mk Tryz.func149 (by kernel_rfl) rfl
theorem kP (s : Int × Int) : bZ Tryz.prog 149 [pSp s] (.ok (.bool (spB 0 32768 s))) := by
 refine bS Tryz.func149 (rfl : Tryz.f149.body = some _) rfl ?_
 intro E A C hN hL
 replace hN : C.N = 5 := hN
 simp only [Gh.num, List.map_cons, List.map_nil, Nat.reduceAdd]
 have hpsp : ∀ s : Int × Int, pSp s = .agg [.int .i64 s.1, .int .i64 s.2] := fun _ => rfl
 repeat apply aA
 apply aB
 refine n1 110 false (hc := aEa.h {}) ?_
 refine v0 ?_
 apply aC
 refine cl [1] ?_
 repeat apply aA
 apply aB
 refine v0 ?_
 refine pc0 (spec := kX s.1 s.2 (0) (32768)) (hent := tI) ?_
 refine v0 ?_
 apply aC
 repeat apply aA
 refine aL ?_
 repeat (first | refine aH ?_ | refine aF ?_ | refine aD ?_)
 refine aM ?_
 refine fp ?_
 rfl
theorem aJc : aJ Tryz.prog 150 := aJ.mk Tryz.func150 (by kernel_rfl) rfl
theorem aLB (s : Int × Int) : bZ Tryz.prog 150 [pSp s] (.ok (.bool (spB (-1048576) 1048576 s))) := by
 refine bS Tryz.func150 (rfl : Tryz.f150.body = some _) rfl ?_
 intro E A C hN hL
 replace hN : C.N = 5 := hN
 simp only [Gh.num, List.map_cons, List.map_nil, Nat.reduceAdd]
 have hpsp : ∀ s : Int × Int, pSp s = .agg [.int .i64 s.1, .int .i64 s.2] := fun _ => rfl
 repeat apply aA
 apply aB
 refine n1 110 false (hc := aEa.h {}) ?_
 refine v0 ?_
 apply aC
 refine cl [1] ?_
 repeat apply aA
 apply aB
 refine v0 ?_
 refine pc0 (spec := kX s.1 s.2 (-1048576) (1048576)) (hent := tI) ?_
 refine v0 ?_
 apply aC
 repeat apply aA
 refine aL ?_
 repeat (first | refine aH ?_ | refine aF ?_ | refine aD ?_)
 refine aM ?_
 refine fp ?_
 rfl
theorem aMR : aJ Tryz.prog 151 := aJ.mk Tryz.func151 (by kernel_rfl) rfl
theorem aK3 (s : mV) : Gh.bE E 151 [.p (eJ s), .ptr [.p (.fn (.func 150) [] [])], .ptr [.p (.fn (.func 149) [] [])]] (aG []) A (fun y => y = .ok (.p (.bool (fC s))) (aG []) A) := by
 refine spX 53 Tryz.func151 rfl ?_
 intro C hN hL
 simp only [Gh.num, List.map_cons, List.map_nil, Nat.reduceAdd]
 have hps : ∀ s : mV, eJ s = .agg [.int .i64 s.x.1, .int .i64 s.x.2, .int .i64 s.y.1, .int .i64 s.y.2, .bool s.kn, .int .i64 s.e.1, .int .i64 s.e.2, .int .i64 s.n.1, .int .i64 s.n.2] := fun _ => rfl
 have hpsp : ∀ s : Int × Int, pSp s = .agg [.int .i64 s.1, .int .i64 s.2] := fun _ => rfl
 have hgs := qF
 obtain ⟨x, y, kn, e, n⟩ := s
 repeat apply aA
 apply aB
 refine n1 130 false (hc := aEa.h {}) ?_
 refine v0 ?_
 apply aC
 refine cl [1, 2, 3] ?_
 repeat apply aA
 cases kn
 ·repeat apply aA
  apply aB
  iterate 2 refine v0 ?_
  refine rb 7 false (h := by (rfl)) ?_
  refine v0 ?_
  iterate 4 refine x0 ?_
  iterate 2 refine v0 ?_
  iterate 4 refine x0 ?_
  iterate 2 refine v0 ?_
  iterate 2 refine w0 ?_
  refine rb 22 false (h := by (rfl)) ?_
  iterate 8 refine w0 ?_
  refine b0 (k1 := fun hb1 => ?_) (k0 := fun hb1 => ?_)
  ·replace hb1 := hB.h {} hb1
   iterate 5 refine w0 ?_
   iterate 2 refine v0 ?_
   apply aC
   refine cl [2, 3, 5] ?_
   repeat apply aA
   apply aB
   iterate 3 refine v0 ?_
   refine pc0 (spec := kP x) (hent := pN) ?_
   iterate 2 refine v0 ?_
   refine b0 (k1 := fun hb2 => ?_) (k0 := fun hb2 => ?_)
   ·replace hb2 := hB.h {} hb2
    iterate 5 refine x0 ?_
    iterate 2 refine v0 ?_
    iterate 2 refine x0 ?_
    iterate 2 refine v0 ?_
    apply aC
    repeat apply aA
    refine aL ?_
    repeat (first | refine aH ?_ | refine aF ?_ | refine aD ?_)
    refine aM ?_
    refine fp ?_
    simp only [fC, jO, jY] at *
    simp_all
   ·replace hb2 := hB.h {} hb2
    iterate 3 refine w0 ?_
    refine pcw (spec := kP y) (hent := pN) ?_
    refine w0 ?_
    iterate 2 refine v0 ?_
    refine b0 (k1 := fun hb3 => ?_) (k0 := fun hb3 => ?_)
    ·replace hb3 := hB.h {} hb3
     iterate 2 refine x0 ?_
     iterate 2 refine v0 ?_
     apply aC
     repeat apply aA
     refine aL ?_
     repeat (first | refine aH ?_ | refine aF ?_ | refine aD ?_)
     refine aM ?_
     refine fp ?_
     simp only [fC, jO, jY] at *
     simp_all
    ·replace hb3 := hB.h {} hb3
     iterate 2 refine w0 ?_
     iterate 2 refine v0 ?_
     apply aC
     repeat apply aA
     refine aL ?_
     repeat (first | refine aH ?_ | refine aF ?_ | refine aD ?_)
     refine aM ?_
     refine fp ?_
     simp only [fC, jO, jY] at *
     simp_all
  ·replace hb1 := hB.h {} hb1
   iterate 4 refine x0 ?_
   refine w0 ?_
   iterate 2 refine v0 ?_
   apply aC
   refine cl [2, 3, 5] ?_
   repeat apply aA
   apply aB
   iterate 3 refine v0 ?_
   refine pc0 (spec := kP x) (hent := pN) ?_
   iterate 2 refine v0 ?_
   refine b0 (k1 := fun hb4 => ?_) (k0 := fun hb4 => ?_)
   ·replace hb4 := hB.h {} hb4
    iterate 5 refine x0 ?_
    iterate 2 refine v0 ?_
    iterate 2 refine x0 ?_
    iterate 2 refine v0 ?_
    apply aC
    repeat apply aA
    refine aL ?_
    repeat (first | refine aH ?_ | refine aF ?_ | refine aD ?_)
    refine aM ?_
    refine fp ?_
    simp only [fC, jO, jY] at *
    simp_all
   ·replace hb4 := hB.h {} hb4
    iterate 3 refine w0 ?_
    refine pcw (spec := kP y) (hent := pN) ?_
    refine w0 ?_
    iterate 2 refine v0 ?_
    refine b0 (k1 := fun hb5 => ?_) (k0 := fun hb5 => ?_)
    ·replace hb5 := hB.h {} hb5
     iterate 2 refine x0 ?_
     iterate 2 refine v0 ?_
     apply aC
     repeat apply aA
     refine aL ?_
     repeat (first | refine aH ?_ | refine aF ?_ | refine aD ?_)
     refine aM ?_
     refine fp ?_
     simp only [fC, jO, jY] at *
     simp_all
    ·replace hb5 := hB.h {} hb5
     iterate 2 refine w0 ?_
     iterate 2 refine v0 ?_
     apply aC
     repeat apply aA
     refine aL ?_
     repeat (first | refine aH ?_ | refine aF ?_ | refine aD ?_)
     refine aM ?_
     refine fp ?_
     simp only [fC, jO, jY] at *
     simp_all
 ·repeat apply aA
  apply aB
  iterate 2 refine v0 ?_
  refine rb 7 true (h := by (rfl)) ?_
  refine v0 ?_
  iterate 3 refine w0 ?_
  refine pcw (spec := aLB e) (hent := aJc) ?_
  iterate 2 refine v0 ?_
  refine b0 (k1 := fun hb6 => ?_) (k0 := fun hb6 => ?_)
  ·replace hb6 := hB.h {} hb6
   iterate 3 refine w0 ?_
   refine pcw (spec := aLB n) (hent := aJc) ?_
   iterate 2 refine v0 ?_
   refine b0 (k1 := fun hb7 => ?_) (k0 := fun hb7 => ?_)
   ·replace hb7 := hB.h {} hb7
    iterate 4 refine x0 ?_
    iterate 4 refine x1 ?_
    iterate 2 refine x0 ?_
    iterate 4 refine x1 ?_
    refine x0 ?_
    iterate 2 refine v0 ?_
    apply aC
    refine cl [2, 3, 5] ?_
    repeat apply aA
    apply aB
    iterate 3 refine v0 ?_
    refine pc0 (spec := kP x) (hent := pN) ?_
    iterate 2 refine v0 ?_
    refine b0 (k1 := fun hb8 => ?_) (k0 := fun hb8 => ?_)
    ·replace hb8 := hB.h {} hb8
     iterate 5 refine x0 ?_
     iterate 2 refine v0 ?_
     iterate 2 refine x0 ?_
     iterate 2 refine v0 ?_
     apply aC
     repeat apply aA
     refine aL ?_
     repeat (first | refine aH ?_ | refine aF ?_ | refine aD ?_)
     refine aM ?_
     refine fp ?_
     simp only [fC, jO, jY] at *
     simp_all
    ·replace hb8 := hB.h {} hb8
     iterate 3 refine w0 ?_
     refine pcw (spec := kP y) (hent := pN) ?_
     refine w0 ?_
     iterate 2 refine v0 ?_
     refine b0 (k1 := fun hb9 => ?_) (k0 := fun hb9 => ?_)
     ·replace hb9 := hB.h {} hb9
      iterate 2 refine x0 ?_
      iterate 2 refine v0 ?_
      apply aC
      repeat apply aA
      refine aL ?_
      repeat (first | refine aH ?_ | refine aF ?_ | refine aD ?_)
      refine aM ?_
      refine fp ?_
      simp only [fC, jO, jY] at *
      simp_all
     ·replace hb9 := hB.h {} hb9
      iterate 2 refine w0 ?_
      iterate 2 refine v0 ?_
      apply aC
      repeat apply aA
      refine aL ?_
      repeat (first | refine aH ?_ | refine aF ?_ | refine aD ?_)
      refine aM ?_
      refine fp ?_
      simp only [fC, jO, jY] at *
      simp_all
   ·replace hb7 := hB.h {} hb7
    iterate 2 refine w0 ?_
    refine rb 22 true (h := by (rfl)) ?_
    iterate 2 refine w0 ?_
    iterate 4 refine x0 ?_
    iterate 2 refine w0 ?_
    iterate 4 refine x0 ?_
    refine w0 ?_
    iterate 2 refine v0 ?_
    apply aC
    refine cl [2, 3, 5] ?_
    repeat apply aA
    apply aB
    iterate 3 refine v0 ?_
    refine pc0 (spec := kP x) (hent := pN) ?_
    iterate 2 refine v0 ?_
    refine b0 (k1 := fun hb10 => ?_) (k0 := fun hb10 => ?_)
    ·replace hb10 := hB.h {} hb10
     iterate 5 refine x0 ?_
     iterate 2 refine v0 ?_
     iterate 2 refine x0 ?_
     iterate 2 refine v0 ?_
     apply aC
     repeat apply aA
     refine aL ?_
     repeat (first | refine aH ?_ | refine aF ?_ | refine aD ?_)
     refine aM ?_
     refine fp ?_
     simp only [fC, jO, jY] at *
     simp_all
    ·replace hb10 := hB.h {} hb10
     iterate 3 refine w0 ?_
     refine pcw (spec := kP y) (hent := pN) ?_
     refine w0 ?_
     iterate 2 refine v0 ?_
     refine b0 (k1 := fun hb11 => ?_) (k0 := fun hb11 => ?_)
     ·replace hb11 := hB.h {} hb11
      iterate 2 refine x0 ?_
      iterate 2 refine v0 ?_
      apply aC
      repeat apply aA
      refine aL ?_
      repeat (first | refine aH ?_ | refine aF ?_ | refine aD ?_)
      refine aM ?_
      refine fp ?_
      simp only [fC, jO, jY] at *
      simp_all
     ·replace hb11 := hB.h {} hb11
      iterate 2 refine w0 ?_
      iterate 2 refine v0 ?_
      apply aC
      repeat apply aA
      refine aL ?_
      repeat (first | refine aH ?_ | refine aF ?_ | refine aD ?_)
      refine aM ?_
      refine fp ?_
      simp only [fC, jO, jY] at *
      simp_all
  ·replace hb6 := hB.h {} hb6
   iterate 4 refine x0 ?_
   iterate 2 refine v0 ?_
   iterate 2 refine w0 ?_
   refine rb 22 true (h := by (rfl)) ?_
   iterate 2 refine w0 ?_
   iterate 4 refine x0 ?_
   iterate 2 refine w0 ?_
   iterate 4 refine x0 ?_
   refine w0 ?_
   iterate 2 refine v0 ?_
   apply aC
   refine cl [2, 3, 5] ?_
   repeat apply aA
   apply aB
   iterate 3 refine v0 ?_
   refine pc0 (spec := kP x) (hent := pN) ?_
   iterate 2 refine v0 ?_
   refine b0 (k1 := fun hb12 => ?_) (k0 := fun hb12 => ?_)
   ·replace hb12 := hB.h {} hb12
    iterate 5 refine x0 ?_
    iterate 2 refine v0 ?_
    iterate 2 refine x0 ?_
    iterate 2 refine v0 ?_
    apply aC
    repeat apply aA
    refine aL ?_
    repeat (first | refine aH ?_ | refine aF ?_ | refine aD ?_)
    refine aM ?_
    refine fp ?_
    simp only [fC, jO, jY] at *
    simp_all
   ·replace hb12 := hB.h {} hb12
    iterate 3 refine w0 ?_
    refine pcw (spec := kP y) (hent := pN) ?_
    refine w0 ?_
    iterate 2 refine v0 ?_
    refine b0 (k1 := fun hb13 => ?_) (k0 := fun hb13 => ?_)
    ·replace hb13 := hB.h {} hb13
     iterate 2 refine x0 ?_
     iterate 2 refine v0 ?_
     apply aC
     repeat apply aA
     refine aL ?_
     repeat (first | refine aH ?_ | refine aF ?_ | refine aD ?_)
     refine aM ?_
     refine fp ?_
     simp only [fC, jO, jY] at *
     simp_all
    ·replace hb13 := hB.h {} hb13
     iterate 2 refine w0 ?_
     iterate 2 refine v0 ?_
     apply aC
     repeat apply aA
     refine aL ?_
     repeat (first | refine aH ?_ | refine aF ?_ | refine aD ?_)
     refine aM ?_
     refine fp ?_
     simp only [fC, jO, jY] at *
     simp_all
theorem aMS : aJ Tryz.prog 171 := aJ.mk Tryz.func171 (by kernel_rfl) rfl
theorem aMT (l : List (mV)) (hl : l.length ≤ 1048576)  : Gh.bE E 171 [.p (.list (l.map eJ)), .fn (.func 151) [] [.ptr [.p (.fn (.func 150) [] [])], .ptr [.p (.fn (.func 149) [] [])]]] (aG []) A (fun y => y = .ok (.p (.int .i64 (kZ fC l 0))) (aG []) A) := by
 refine spX 19 Tryz.func171 rfl ?_
 intro C hN hL
 simp only [Gh.num, List.map_cons, List.map_nil, Nat.reduceAdd]
 have hps : ∀ s : mV, eJ s = .agg [.int .i64 s.x.1, .int .i64 s.x.2, .int .i64 s.y.1, .int .i64 s.y.2, .bool s.kn, .int .i64 s.e.1, .int .i64 s.e.2, .int .i64 s.n.1, .int .i64 s.n.2] := fun _ => rfl
 repeat apply aA
 apply aB
 refine v0 ?_
 apply aC
 refine cl [0, 1] ?_
 repeat apply aA
 apply aB
 iterate 3 refine v0 ?_
 apply aC
 refine cl [0, 1, 7, 8] ?_
 repeat apply aA
 refine aP ?_
 repeat apply aA
 refine cI (fun mz σ => ∃ k : Nat, (k ≤ l.length) ∧ (kZ fC l 0 = kZ fC (l.drop k) k) ∧ mz = l.length - k ∧ σ = (sg [(0, .p (.list (l.map eJ))), (1, .fn (.func 151) [] [.ptr [.p (.fn (.func 150) [] [])], .ptr [.p (.fn (.func 149) [] [])]]), (7, .p (.int .i64 l.length)), (8, .p (.int .i64 k))] [] A [] : Sg E)) ?_ (fun mz σ hI => ?_)
 ·refine gA [0, 1, 7, 8] ?_
  exact ⟨_, 0, by omega, by simp, rfl, rfl⟩
 obtain ⟨k, hk, hi, hn, rfl⟩ := hI
 repeat apply aA
 apply aB
 refine v0 ?_
 apply aC
 repeat apply aA
 refine cB (k1 := fun hb1 => ?_) (k0 := fun hb1 => ?_)
 ·replace hb1 := hB.h {} hb1
  repeat apply aA
  refine aR ?_
  refine cl [0, 1, 7, 8] ?_
  repeat apply aA
  refine aP ?_
  repeat apply aA
  apply aB
  iterate 2 refine v0 ?_
  apply aC
  refine cl [0, 1, 5, 7, 8] ?_
  repeat apply aA
  obtain ⟨x, hx⟩ := fQ (l := l) (k := k) (by omega)
  apply aB
  iterate 3 refine v0 ?_
  refine v1 (hc := aOf.h {}) ?_
  refine v0 ?_
  refine oc0 [] [] [0, 0, 0] none (spec := aK3 x) (hent := aMR) ?_
  apply aC
  repeat apply aA
  refine cB (k1 := fun hb2 => ?_) (k0 := fun hb2 => ?_)
  ·replace hb2 := hB.h {} hb2
   repeat apply aA
   apply aB
   iterate 2 refine v0 ?_
   apply aC
   repeat apply aA
   refine aL ?_
   repeat (first | refine aH ?_ | refine aF ?_ | refine aD ?_)
   refine aM ?_
   refine fp ?_
   simp only [dS.at, cK.ok.injEq, G.p.injEq, P.int.injEq, true_and, and_true]
   first
   | (rw [hi, fB hx]; simp_all; done)
   | (rw [hi, List.drop_eq_nil_of_le (by omega)]; rfl)
  ·replace hb2 := hB.h {} hb2
   repeat apply aA
   refine aR ?_
   refine cl [0, 1, 7, 8] ?_
   repeat apply aA
   apply aB
   refine v1 (hc := aOf.h {}) ?_
   refine v0 ?_
   apply aC
   refine eC [0, 1, 7, 8] (h := ?_) (hV := ?_) (n' := l.length - (k + 1))
   ·omega
   exact ⟨k + 1, by omega, by rw [hi, fB hx]; simp_all, rfl, rfl⟩
 ·replace hb1 := hB.h {} hb1
  repeat apply aA
  refine bV ?_
  repeat (first | refine bH ?_ | refine aY ?_ | refine bC ?_ | refine bI rfl ?_)
  refine cl [] ?_
  repeat apply aA
  apply aB
  refine v0 ?_
  apply aC
  repeat apply aA
  refine aL ?_
  repeat (first | refine aH ?_ | refine aF ?_ | refine aD ?_)
  refine aM ?_
  refine fp ?_
  simp only [dS.at, cK.ok.injEq, G.p.injEq, P.int.injEq, true_and, and_true]
  first
  | (rw [hi, fB hx]; simp_all; done)
  | (rw [hi, List.drop_eq_nil_of_le (by omega)]; rfl)
theorem aMU : aJ Tryz.prog 152 := aJ.mk Tryz.func152 (by kernel_rfl) rfl
theorem aMV (l : List (mV)) (hl : l.length ≤ 1048576)  : Gh.bE E 152 [.p (.list (l.map eJ)), .fn (.func 151) [] [.ptr [.p (.fn (.func 150) [] [])], .ptr [.p (.fn (.func 149) [] [])]]] (aG []) A (fun y => y = .ok (.p (.bool (l.any fC))) (aG []) A) := by
 refine spX 9 Tryz.func152 rfl ?_
 intro C hN hL
 simp only [Gh.num, List.map_cons, List.map_nil, Nat.reduceAdd]
 repeat apply aA
 apply aB
 refine v0 ?_
 apply aC
 refine cl [0, 1] ?_
 repeat apply aA
 apply aB
 iterate 2 refine v0 ?_
 refine oc0 [] [] [0, 0] none (spec := aMT l hl ) (hent := aMS) ?_
 iterate 2 refine v0 ?_
 apply aC
 repeat apply aA
 refine aL ?_
 repeat (first | refine aH ?_ | refine aF ?_ | refine aD ?_)
 refine aM ?_
 refine fp ?_
 rw [← nN fC l 0]
theorem aJd : aJ Tryz.prog 115 := aJ.mk Tryz.func115 (by kernel_rfl) rfl
theorem aB8 (p : Plt) (h : p.st.length ≤ 1048576) : Gh.bE E 115 [.p (nF p)] (aG []) A (fun y => y = .ok (.p (.bool p.valid)) (aG []) A) := by
 refine spX 23 Tryz.func115 rfl ?_
 intro C hN hL
 simp only [Gh.num, List.map_cons, List.map_nil, Nat.reduceAdd]
 unfold nF
 have hps : ∀ s : mV, eJ s = .agg [.int .i64 s.x.1, .int .i64 s.x.2, .int .i64 s.y.1, .int .i64 s.y.2, .bool s.kn, .int .i64 s.e.1, .int .i64 s.e.2, .int .i64 s.n.1, .int .i64 s.n.2] := fun _ => rfl
 repeat apply aA
 apply aB
 refine n1 110 false (hc := aEa.h {}) ?_
 refine v0 ?_
 apply aC
 refine cl [1] ?_
 repeat apply aA
 apply aB
 refine n1 130 false (hc := aEa.h {}) ?_
 refine s1 (hc := aEa.h {}) ?_
 apply aC
 refine cl [1, 3] ?_
 repeat apply aA
 apply aB
 refine n1 140 false (hc := aEa.h {}) ?_
 refine s1 (hc := aEa.h {}) ?_
 apply aC
 refine cl [1, 3, 4] ?_
 repeat apply aA
 refine fz 130 1 [.k] ?_
 refine fz 140 1 [.k] ?_
 apply aB
 iterate 2 refine v0 ?_
 apply aC
 refine cl [1, 5] ?_
 repeat apply aA
 refine cv 5 (.f [.n [.k], .n [.k]]) ?_
 apply aB
 iterate 2 refine v0 ?_
 refine pc0 (spec := kX p.sc.1 p.sc.2 (1) (1000)) (hent := tI) ?_
 refine v0 ?_
 refine b0 (k1 := fun hb1 => ?_) (k0 := fun hb1 => ?_)
 ·replace hb1 := hB.h {} hb1
  iterate 4 refine w0 ?_
  iterate 2 refine v0 ?_
  refine b0 (k1 := fun hb2 => ?_) (k0 := fun hb2 => ?_)
  ·replace hb2 := hB.h {} hb2
   iterate 3 refine w0 ?_
   refine ocw [] [] [0, 0] none (spec := aMV p.st h) (hent := aMU) ?_
   refine w0 ?_
   iterate 2 refine v0 ?_
   apply aC
   repeat apply aA
   refine aL ?_
   repeat (first | refine aH ?_ | refine aF ?_ | refine aD ?_)
   refine aM ?_
   refine fp ?_
   simp only [Plt.valid, spB] at *
   simp_all
   all_goals (intros; exfalso; omega)
  ·replace hb2 := hB.h {} hb2
   iterate 5 refine x0 ?_
   iterate 2 refine v0 ?_
   apply aC
   repeat apply aA
   refine aL ?_
   repeat (first | refine aH ?_ | refine aF ?_ | refine aD ?_)
   refine aM ?_
   refine fp ?_
   simp only [Plt.valid, spB] at *
   simp_all
   all_goals (intros; exfalso; omega)
 ·replace hb1 := hB.h {} hb1
  iterate 4 refine x0 ?_
  iterate 2 refine v0 ?_
  iterate 5 refine x0 ?_
  iterate 2 refine v0 ?_
  apply aC
  repeat apply aA
  refine aL ?_
  repeat (first | refine aH ?_ | refine aF ?_ | refine aD ?_)
  refine aM ?_
  refine fp ?_
  simp only [Plt.valid, spB] at *
  simp_all
  all_goals (intros; exfalso; omega)
end
section
open Go.Gh
variable {E : Env Tryz.prog} {A : E.α}
structure aBz (c : Prop) : Prop where
 h : c := by (first | exact True.intro | omega | (simp only [inI]; omega) | (simp [P.size, bR, bF, bN, bB, cR, good, G.one, P.one, P.cells] <;> first | omega | assumption | simp_all))
structure aK4 (c : Prop) : Prop where
 h : c := by (first | exact True.intro | omega | (simp [P.size] <;> first | omega | (intro x a b _ h; subst h; rfl) | (intro x a b d _ h; subst h; rfl) | (intro a _; rfl)) | (simp [P.size]; exact ⟨by omega, fun a _ => rfl⟩) | omega | (simp only [inI]; omega) | (simp [P.size, bR, bF, bN, bB, cR, good, G.one, P.one, P.cells] <;> first | omega | assumption | simp_all))
def inB (lo hi n : Int) : Bool := decide (lo ≤ n) && decide (n ≤ hi)
def oM (ps : Int) (k : Int × Int) : Bool := !(decide (¬ k.1 = k.2) && inB 0 (ps - 1) k.1 && inB 0 (ps - 1) k.2)
def qX (pl ps : Int) (r : Int × Int × Int) : Bool := oM ps r.2 || !inB 0 (pl - 1) r.1
def Chn.valid (c : Chn) : Bool := inB 1 4 c.pl && inB 1 8 c.ps && inB 0 20 c.ms && decide ((c.kn.length : Int) ≤ 28) && decide ((c.rs.length : Int) ≤ 12) && !c.kn.any (oM c.ps) && !c.rs.any (qX c.pl c.ps)
def eZ (e : Int × Int) : Bool := !spB (-100) 100 e
def sS (im : Int) (n : Nat) (s : Stg) : Bool := !inB 0 (im - 1) s.im || !inB 0 ((n : Int) * 1000 - 1) s.rd
def Msr.valid (m : Msr) : Bool := inB 1 40 m.er.length && spB (-100) 100 m.ey && !m.er.any eZ && inB 1 6 m.im && spB 0 131072 m.su && decide ((m.se.length : Int) ≤ 12) && !m.se.any (sS m.im m.er.length)
theorem aJe : aJ Tryz.prog 153 := aJ.mk Tryz.func153 (by kernel_rfl) rfl
theorem aLC (c : Chn) (hp : 1 ≤ c.ps ∧ c.ps ≤ 8) (hq : 1 ≤ c.pl ∧ c.pl ≤ 4) (a b : Int) : Gh.bE E 153 [.p (.int .i64 a), .p (.int .i64 b), .ptr [.p (.int .i64 c.pl), .p (.int .i64 c.ps), .p (.list (c.kn.map pSp)), .p (.list (c.rs.map pRc)), .p (.int .i64 c.ms)]] (aG []) A (fun y => y = .ok (.p (.bool (!oM c.ps (a, b)))) (aG []) A) := by
 refine spX 23 Tryz.func153 rfl ?_
 intro C hN hL
 simp only [Gh.num, List.map_cons, List.map_nil, Nat.reduceAdd]
 repeat apply aA
 apply aB
 refine v0 ?_
 apply aC
 refine cl [0, 1, 2] ?_
 repeat apply aA
 apply aB
 iterate 4 refine v0 ?_
 refine b0 (k1 := fun hb1 => ?_) (k0 := fun hb1 => ?_)
 ·replace hb1 := hB.h {} hb1
  iterate 3 refine w0 ?_
  refine w1 (hc := aBz.h {}) ?_
  refine pcw (spec := gB _ _ _) (hent := mS) ?_
  iterate 2 refine v0 ?_
  refine b0 (k1 := fun hb2 => ?_) (k0 := fun hb2 => ?_)
  ·replace hb2 := hB.h {} hb2
   iterate 3 refine w0 ?_
   refine w1 (hc := aBz.h {}) ?_
   refine pcw (spec := gB _ _ _) (hent := mS) ?_
   iterate 2 refine v0 ?_
   apply aC
   repeat apply aA
   refine aL ?_
   repeat (first | refine aH ?_ | refine aF ?_ | refine aD ?_)
   refine aM ?_
   refine fp ?_
   simp only [oM, inB, Bool.not_not] at *
   simp_all
   all_goals (intros; omega)
  ·replace hb2 := hB.h {} hb2
   iterate 5 refine x0 ?_
   iterate 2 refine v0 ?_
   apply aC
   repeat apply aA
   refine aL ?_
   repeat (first | refine aH ?_ | refine aF ?_ | refine aD ?_)
   refine aM ?_
   refine fp ?_
   simp only [oM, inB, Bool.not_not] at *
   simp_all
   all_goals (intros; omega)
 ·replace hb1 := hB.h {} hb1
  iterate 5 refine x0 ?_
  iterate 2 refine v0 ?_
  iterate 5 refine x0 ?_
  iterate 2 refine v0 ?_
  apply aC
  repeat apply aA
  refine aL ?_
  repeat (first | refine aH ?_ | refine aF ?_ | refine aD ?_)
  refine aM ?_
  refine fp ?_
  simp only [oM, inB, Bool.not_not] at *
  simp_all
  all_goals (intros; omega)
theorem aMW : aJ Tryz.prog 154 := aJ.mk Tryz.func154 (by kernel_rfl) rfl
theorem aMX (c : Chn) (hp : 1 ≤ c.ps ∧ c.ps ≤ 8) (hq : 1 ≤ c.pl ∧ c.pl ≤ 4) (z : Int × Int) : Gh.bE E 154 [.p (pSp z), .ptr [.fn (.func 153) [] [.ptr [.p (.int .i64 c.pl), .p (.int .i64 c.ps), .p (.list (c.kn.map pSp)), .p (.list (c.rs.map pRc)), .p (.int .i64 c.ms)]]]] (aG []) A (fun y => y = .ok (.p (.bool (oM c.ps z))) (aG []) A) := by
 refine spX 11 Tryz.func154 rfl ?_
 intro C hN hL
 simp only [Gh.num, List.map_cons, List.map_nil, Nat.reduceAdd]
 have hpsp : ∀ s : Int × Int, pSp s = .agg [.int .i64 s.1, .int .i64 s.2] := fun _ => rfl
 repeat apply aA
 apply aB
 refine n1 120 false (hc := aBz.h {}) ?_
 refine v0 ?_
 apply aC
 refine cl [1, 2] ?_
 repeat apply aA
 apply aB
 refine v0 ?_
 refine v1 (hc := aBz.h {}) ?_
 refine v0 ?_
 refine v1 (hc := aBz.h {}) ?_
 refine v0 ?_
 refine oc0 [] [] [0, 0, 0] none (spec := aLC c hp hq z.1 z.2) (hent := aJe) ?_
 iterate 2 refine v0 ?_
 apply aC
 repeat apply aA
 refine aL ?_
 repeat (first | refine aH ?_ | refine aF ?_ | refine aD ?_)
 refine aM ?_
 refine fp ?_
 simp
theorem aMY : aJ Tryz.prog 155 := aJ.mk Tryz.func155 (by kernel_rfl) rfl
theorem aMZ (c : Chn) (hp : 1 ≤ c.ps ∧ c.ps ≤ 8) (hq : 1 ≤ c.pl ∧ c.pl ≤ 4) (z : Int × Int × Int) : Gh.bE E 155 [.p (pRc z), .ptr [.fn (.func 153) [] [.ptr [.p (.int .i64 c.pl), .p (.int .i64 c.ps), .p (.list (c.kn.map pSp)), .p (.list (c.rs.map pRc)), .p (.int .i64 c.ms)]]], .ptr [.p (.int .i64 c.pl), .p (.int .i64 c.ps), .p (.list (c.kn.map pSp)), .p (.list (c.rs.map pRc)), .p (.int .i64 c.ms)]] (aG []) A (fun y => y = .ok (.p (.bool (qX c.pl c.ps z))) (aG []) A) := by
 refine spX 21 Tryz.func155 rfl ?_
 intro C hN hL
 simp only [Gh.num, List.map_cons, List.map_nil, Nat.reduceAdd]
 have hprc : ∀ s : Int × Int × Int, pRc s = .agg [.int .i64 s.1, .int .i64 s.2.1, .int .i64 s.2.2] := fun _ => rfl
 repeat apply aA
 apply aB
 refine n1 130 false (hc := aBz.h {}) ?_
 refine v0 ?_
 apply aC
 refine cl [1, 2, 3] ?_
 repeat apply aA
 apply aB
 iterate 5 refine v0 ?_
 refine oc0 [] [] [0, 0, 0] none (spec := aLC c hp hq z.2.1 z.2.2) (hent := aJe) ?_
 iterate 2 refine v0 ?_
 refine b0 (k1 := fun hb1 => ?_) (k0 := fun hb1 => ?_)
 ·replace hb1 := hB.h {} hb1
  iterate 7 refine x0 ?_
  iterate 2 refine v0 ?_
  apply aC
  repeat apply aA
  refine aL ?_
  repeat (first | refine aH ?_ | refine aF ?_ | refine aD ?_)
  refine aM ?_
  refine fp ?_
  simp only [qX, inB] at *
  simp_all
 ·replace hb1 := hB.h {} hb1
  iterate 4 refine w0 ?_
  refine w1 (hc := aBz.h {}) ?_
  refine pcw (spec := gB _ _ _) (hent := mS) ?_
  refine w0 ?_
  iterate 2 refine v0 ?_
  apply aC
  repeat apply aA
  refine aL ?_
  repeat (first | refine aH ?_ | refine aF ?_ | refine aD ?_)
  refine aM ?_
  refine fp ?_
  simp only [qX, inB] at *
  simp_all
theorem aM0 : aJ Tryz.prog 172 := aJ.mk Tryz.func172 (by kernel_rfl) rfl
theorem aM1 (l : List (Int × Int)) (hl : l.length ≤ 1048576) (c : Chn) (hp : 1 ≤ c.ps ∧ c.ps ≤ 8) (hq : 1 ≤ c.pl ∧ c.pl ≤ 4) : Gh.bE E 172 [.p (.list (l.map pSp)), .fn (.func 154) [] [.ptr [.fn (.func 153) [] [.ptr [.p (.int .i64 c.pl), .p (.int .i64 c.ps), .p (.list (c.kn.map pSp)), .p (.list (c.rs.map pRc)), .p (.int .i64 c.ms)]]]]] (aG []) A (fun y => y = .ok (.p (.int .i64 (kZ (oM c.ps) l 0))) (aG []) A) := by
 refine spX 19 Tryz.func172 rfl ?_
 intro C hN hL
 simp only [Gh.num, List.map_cons, List.map_nil, Nat.reduceAdd]
 have hpsp : ∀ s : Int × Int, pSp s = .agg [.int .i64 s.1, .int .i64 s.2] := fun _ => rfl
 repeat apply aA
 apply aB
 refine v0 ?_
 apply aC
 refine cl [0, 1] ?_
 repeat apply aA
 apply aB
 iterate 3 refine v0 ?_
 apply aC
 refine cl [0, 1, 7, 8] ?_
 repeat apply aA
 refine aP ?_
 repeat apply aA
 refine cI (fun mz σ => ∃ k : Nat, (k ≤ l.length) ∧ (kZ (oM c.ps) l 0 = kZ (oM c.ps) (l.drop k) k) ∧ mz = l.length - k ∧ σ = (sg [(0, .p (.list (l.map pSp))), (1, .fn (.func 154) [] [.ptr [.fn (.func 153) [] [.ptr [.p (.int .i64 c.pl), .p (.int .i64 c.ps), .p (.list (c.kn.map pSp)), .p (.list (c.rs.map pRc)), .p (.int .i64 c.ms)]]]]), (7, .p (.int .i64 l.length)), (8, .p (.int .i64 k))] [] A [] : Sg E)) ?_ (fun mz σ hI => ?_)
 ·refine gA [0, 1, 7, 8] ?_
  exact ⟨_, 0, by omega, by simp, rfl, rfl⟩
 obtain ⟨k, hk, hi, hn, rfl⟩ := hI
 repeat apply aA
 apply aB
 refine v0 ?_
 apply aC
 repeat apply aA
 refine cB (k1 := fun hb1 => ?_) (k0 := fun hb1 => ?_)
 ·replace hb1 := hB.h {} hb1
  repeat apply aA
  refine aR ?_
  refine cl [0, 1, 7, 8] ?_
  repeat apply aA
  refine aP ?_
  repeat apply aA
  apply aB
  iterate 2 refine v0 ?_
  apply aC
  refine cl [0, 1, 5, 7, 8] ?_
  repeat apply aA
  obtain ⟨x, hx⟩ := fQ (l := l) (k := k) (by omega)
  apply aB
  iterate 3 refine v0 ?_
  refine v1 (hc := aK4.h {}) ?_
  refine v0 ?_
  refine oc0 [] [] [0, 0] none (spec := aMX c hp hq x) (hent := aMW) ?_
  apply aC
  repeat apply aA
  refine cB (k1 := fun hb2 => ?_) (k0 := fun hb2 => ?_)
  ·replace hb2 := hB.h {} hb2
   repeat apply aA
   apply aB
   iterate 2 refine v0 ?_
   apply aC
   repeat apply aA
   refine aL ?_
   repeat (first | refine aH ?_ | refine aF ?_ | refine aD ?_)
   refine aM ?_
   refine fp ?_
   simp only [dS.at, cK.ok.injEq, G.p.injEq, P.int.injEq, true_and, and_true]
   first
   | (rw [hi, fB hx]; simp_all; done)
   | (rw [hi, List.drop_eq_nil_of_le (by omega)]; rfl)
  ·replace hb2 := hB.h {} hb2
   repeat apply aA
   refine aR ?_
   refine cl [0, 1, 7, 8] ?_
   repeat apply aA
   apply aB
   refine v1 (hc := aK4.h {}) ?_
   refine v0 ?_
   apply aC
   refine eC [0, 1, 7, 8] (h := ?_) (hV := ?_) (n' := l.length - (k + 1))
   ·omega
   exact ⟨k + 1, by omega, by rw [hi, fB hx]; simp_all, rfl, rfl⟩
 ·replace hb1 := hB.h {} hb1
  repeat apply aA
  refine bV ?_
  repeat (first | refine bH ?_ | refine aY ?_ | refine bC ?_ | refine bI rfl ?_)
  refine cl [] ?_
  repeat apply aA
  apply aB
  refine v0 ?_
  apply aC
  repeat apply aA
  refine aL ?_
  repeat (first | refine aH ?_ | refine aF ?_ | refine aD ?_)
  refine aM ?_
  refine fp ?_
  simp only [dS.at, cK.ok.injEq, G.p.injEq, P.int.injEq, true_and, and_true]
  first
  | (rw [hi, fB hx]; simp_all; done)
  | (rw [hi, List.drop_eq_nil_of_le (by omega)]; rfl)
theorem aM2 : aJ Tryz.prog 156 := aJ.mk Tryz.func156 (by kernel_rfl) rfl
theorem aM3 (l : List (Int × Int)) (hl : l.length ≤ 1048576) (c : Chn) (hp : 1 ≤ c.ps ∧ c.ps ≤ 8) (hq : 1 ≤ c.pl ∧ c.pl ≤ 4) : Gh.bE E 156 [.p (.list (l.map pSp)), .fn (.func 154) [] [.ptr [.fn (.func 153) [] [.ptr [.p (.int .i64 c.pl), .p (.int .i64 c.ps), .p (.list (c.kn.map pSp)), .p (.list (c.rs.map pRc)), .p (.int .i64 c.ms)]]]]] (aG []) A (fun y => y = .ok (.p (.bool (l.any (oM c.ps)))) (aG []) A) := by
 refine spX 9 Tryz.func156 rfl ?_
 intro C hN hL
 simp only [Gh.num, List.map_cons, List.map_nil, Nat.reduceAdd]
 repeat apply aA
 apply aB
 refine v0 ?_
 apply aC
 refine cl [0, 1] ?_
 repeat apply aA
 apply aB
 iterate 2 refine v0 ?_
 refine oc0 [] [] [0, 0] none (spec := aM1 l hl c hp hq) (hent := aM0) ?_
 iterate 2 refine v0 ?_
 apply aC
 repeat apply aA
 refine aL ?_
 repeat (first | refine aH ?_ | refine aF ?_ | refine aD ?_)
 refine aM ?_
 refine fp ?_
 rw [← nN (oM c.ps) l 0]
theorem aM4 : aJ Tryz.prog 173 := aJ.mk Tryz.func173 (by kernel_rfl) rfl
theorem aM5 (l : List (Int × Int × Int)) (hl : l.length ≤ 1048576) (c : Chn) (hp : 1 ≤ c.ps ∧ c.ps ≤ 8) (hq : 1 ≤ c.pl ∧ c.pl ≤ 4) : Gh.bE E 173 [.p (.list (l.map pRc)), .fn (.func 155) [] [.ptr [.fn (.func 153) [] [.ptr [.p (.int .i64 c.pl), .p (.int .i64 c.ps), .p (.list (c.kn.map pSp)), .p (.list (c.rs.map pRc)), .p (.int .i64 c.ms)]]], .ptr [.p (.int .i64 c.pl), .p (.int .i64 c.ps), .p (.list (c.kn.map pSp)), .p (.list (c.rs.map pRc)), .p (.int .i64 c.ms)]]] (aG []) A (fun y => y = .ok (.p (.int .i64 (kZ (qX c.pl c.ps) l 0))) (aG []) A) := by
 refine spX 19 Tryz.func173 rfl ?_
 intro C hN hL
 simp only [Gh.num, List.map_cons, List.map_nil, Nat.reduceAdd]
 have hprc : ∀ s : Int × Int × Int, pRc s = .agg [.int .i64 s.1, .int .i64 s.2.1, .int .i64 s.2.2] := fun _ => rfl
 repeat apply aA
 apply aB
 refine v0 ?_
 apply aC
 refine cl [0, 1] ?_
 repeat apply aA
 apply aB
 iterate 3 refine v0 ?_
 apply aC
 refine cl [0, 1, 7, 8] ?_
 repeat apply aA
 refine aP ?_
 repeat apply aA
 refine cI (fun mz σ => ∃ k : Nat, (k ≤ l.length) ∧ (kZ (qX c.pl c.ps) l 0 = kZ (qX c.pl c.ps) (l.drop k) k) ∧ mz = l.length - k ∧ σ = (sg [(0, .p (.list (l.map pRc))), (1, .fn (.func 155) [] [.ptr [.fn (.func 153) [] [.ptr [.p (.int .i64 c.pl), .p (.int .i64 c.ps), .p (.list (c.kn.map pSp)), .p (.list (c.rs.map pRc)), .p (.int .i64 c.ms)]]], .ptr [.p (.int .i64 c.pl), .p (.int .i64 c.ps), .p (.list (c.kn.map pSp)), .p (.list (c.rs.map pRc)), .p (.int .i64 c.ms)]]), (7, .p (.int .i64 l.length)), (8, .p (.int .i64 k))] [] A [] : Sg E)) ?_ (fun mz σ hI => ?_)
 ·refine gA [0, 1, 7, 8] ?_
  exact ⟨_, 0, by omega, by simp, rfl, rfl⟩
 obtain ⟨k, hk, hi, hn, rfl⟩ := hI
 repeat apply aA
 apply aB
 refine v0 ?_
 apply aC
 repeat apply aA
 refine cB (k1 := fun hb1 => ?_) (k0 := fun hb1 => ?_)
 ·replace hb1 := hB.h {} hb1
  repeat apply aA
  refine aR ?_
  refine cl [0, 1, 7, 8] ?_
  repeat apply aA
  refine aP ?_
  repeat apply aA
  apply aB
  iterate 2 refine v0 ?_
  apply aC
  refine cl [0, 1, 5, 7, 8] ?_
  repeat apply aA
  obtain ⟨x, hx⟩ := fQ (l := l) (k := k) (by omega)
  apply aB
  iterate 3 refine v0 ?_
  refine v1 (hc := aK4.h {}) ?_
  refine v0 ?_
  refine oc0 [] [] [0, 0, 0] none (spec := aMZ c hp hq x) (hent := aMY) ?_
  apply aC
  repeat apply aA
  refine cB (k1 := fun hb2 => ?_) (k0 := fun hb2 => ?_)
  ·replace hb2 := hB.h {} hb2
   repeat apply aA
   apply aB
   iterate 2 refine v0 ?_
   apply aC
   repeat apply aA
   refine aL ?_
   repeat (first | refine aH ?_ | refine aF ?_ | refine aD ?_)
   refine aM ?_
   refine fp ?_
   simp only [dS.at, cK.ok.injEq, G.p.injEq, P.int.injEq, true_and, and_true]
   first
   | (rw [hi, fB hx]; simp_all; done)
   | (rw [hi, List.drop_eq_nil_of_le (by omega)]; rfl)
  ·replace hb2 := hB.h {} hb2
   repeat apply aA
   refine aR ?_
   refine cl [0, 1, 7, 8] ?_
   repeat apply aA
   apply aB
   refine v1 (hc := aK4.h {}) ?_
   refine v0 ?_
   apply aC
   refine eC [0, 1, 7, 8] (h := ?_) (hV := ?_) (n' := l.length - (k + 1))
   ·omega
   exact ⟨k + 1, by omega, by rw [hi, fB hx]; simp_all, rfl, rfl⟩
 ·replace hb1 := hB.h {} hb1
  repeat apply aA
  refine bV ?_
  repeat (first | refine bH ?_ | refine aY ?_ | refine bC ?_ | refine bI rfl ?_)
  refine cl [] ?_
  repeat apply aA
  apply aB
  refine v0 ?_
  apply aC
  repeat apply aA
  refine aL ?_
  repeat (first | refine aH ?_ | refine aF ?_ | refine aD ?_)
  refine aM ?_
  refine fp ?_
  simp only [dS.at, cK.ok.injEq, G.p.injEq, P.int.injEq, true_and, and_true]
  first
  | (rw [hi, fB hx]; simp_all; done)
  | (rw [hi, List.drop_eq_nil_of_le (by omega)]; rfl)
theorem aM6 : aJ Tryz.prog 157 := aJ.mk Tryz.func157 (by kernel_rfl) rfl
theorem aM7 (l : List (Int × Int × Int)) (hl : l.length ≤ 1048576) (c : Chn) (hp : 1 ≤ c.ps ∧ c.ps ≤ 8) (hq : 1 ≤ c.pl ∧ c.pl ≤ 4) : Gh.bE E 157 [.p (.list (l.map pRc)), .fn (.func 155) [] [.ptr [.fn (.func 153) [] [.ptr [.p (.int .i64 c.pl), .p (.int .i64 c.ps), .p (.list (c.kn.map pSp)), .p (.list (c.rs.map pRc)), .p (.int .i64 c.ms)]]], .ptr [.p (.int .i64 c.pl), .p (.int .i64 c.ps), .p (.list (c.kn.map pSp)), .p (.list (c.rs.map pRc)), .p (.int .i64 c.ms)]]] (aG []) A (fun y => y = .ok (.p (.bool (l.any (qX c.pl c.ps)))) (aG []) A) := by
 refine spX 9 Tryz.func157 rfl ?_
 intro C hN hL
 simp only [Gh.num, List.map_cons, List.map_nil, Nat.reduceAdd]
 repeat apply aA
 apply aB
 refine v0 ?_
 apply aC
 refine cl [0, 1] ?_
 repeat apply aA
 apply aB
 iterate 2 refine v0 ?_
 refine oc0 [] [] [0, 0] none (spec := aM5 l hl c hp hq) (hent := aM4) ?_
 iterate 2 refine v0 ?_
 apply aC
 repeat apply aA
 refine aL ?_
 repeat (first | refine aH ?_ | refine aF ?_ | refine aD ?_)
 refine aM ?_
 refine fp ?_
 rw [← nN (qX c.pl c.ps) l 0]
theorem aJf : aJ Tryz.prog 124 := aJ.mk Tryz.func124 (by kernel_rfl) rfl
theorem aB9 (c : Chn) (h1 : c.kn.length ≤ 1048576) (h2 : c.rs.length ≤ 1048576) : Gh.bE E 124 [.p (nG c)] (aG []) A (fun y => y = .ok (.p (.bool c.valid)) (aG []) A) := by
 refine spX 50 Tryz.func124 rfl ?_
 intro C hN hL
 simp only [Gh.num, List.map_cons, List.map_nil, Nat.reduceAdd]
 unfold nG
 have hpsp : ∀ s : Int × Int, pSp s = .agg [.int .i64 s.1, .int .i64 s.2] := fun _ => rfl
 have hprc : ∀ s : Int × Int × Int, pRc s = .agg [.int .i64 s.1, .int .i64 s.2.1, .int .i64 s.2.2] := fun _ => rfl
 repeat apply aA
 apply aB
 refine n1 110 false (hc := aBz.h {}) ?_
 refine v0 ?_
 apply aC
 refine cl [1] ?_
 repeat apply aA
 apply aB
 refine v0 ?_
 refine n1 130 false (hc := aBz.h {}) ?_
 refine s1 (hc := aBz.h {}) ?_
 apply aC
 refine cl [1, 3] ?_
 repeat apply aA
 refine fz 110 5 [.k, .k, .k, .k, .k] ?_
 refine fz 130 1 [.f [.n [.k, .k, .k, .k, .k]]] ?_
 apply aB
 iterate 2 refine v0 ?_
 apply aC
 refine cl [1, 3, 4] ?_
 repeat apply aA
 refine cv 4 (.f [.n [.k]]) ?_
 apply aB
 iterate 2 refine v0 ?_
 apply aC
 refine cl [1, 4, 5] ?_
 repeat apply aA
 refine cv 5 (.f [.n [.k], .n [.k, .k, .k, .k, .k]]) ?_
 apply aB
 iterate 2 refine v0 ?_
 refine pc0 (spec := gB _ _ _) (hent := mS) ?_
 refine v0 ?_
 refine b0 (k1 := fun hb1 => ?_) (k0 := fun hb1 => ?_)
 ·replace hb1 := hB.h {} hb1
  iterate 2 refine w0 ?_
  refine pcw (spec := gB _ _ _) (hent := mS) ?_
  iterate 2 refine v0 ?_
  refine b0 (k1 := fun hb2 => ?_) (k0 := fun hb2 => ?_)
  ·replace hb2 := hB.h {} hb2
   iterate 2 refine w0 ?_
   refine pcw (spec := gB _ _ _) (hent := mS) ?_
   iterate 2 refine v0 ?_
   apply aC
   refine cl [1, 4, 5, 6] ?_
   repeat apply aA
   apply aB
   iterate 2 refine v0 ?_
   refine b0 (k1 := fun hb3 => ?_) (k0 := fun hb3 => ?_)
   ·replace hb3 := hB.h {} hb3
    iterate 4 refine w0 ?_
    iterate 2 refine v0 ?_
    refine b0 (k1 := fun hb4 => ?_) (k0 := fun hb4 => ?_)
    ·replace hb4 := hB.h {} hb4
     iterate 4 refine w0 ?_
     iterate 2 refine v0 ?_
     refine b0 (k1 := fun hb5 => ?_) (k0 := fun hb5 => ?_)
     ·replace hb5 := hB.h {} hb5
      iterate 3 refine w0 ?_
      refine ocw [] [] [0, 0] none (spec := aM3 c.kn h1 c (by omega) (by omega)) (hent := aM2) ?_
      refine w0 ?_
      iterate 2 refine v0 ?_
      refine b0 (k1 := fun hb6 => ?_) (k0 := fun hb6 => ?_)
      ·replace hb6 := hB.h {} hb6
       iterate 3 refine w0 ?_
       refine ocw [] [] [0, 0] none (spec := aM7 c.rs h2 c (by omega) (by omega)) (hent := aM6) ?_
       refine w0 ?_
       iterate 2 refine v0 ?_
       apply aC
       repeat apply aA
       refine aL ?_
       repeat (first | refine aH ?_ | refine aF ?_ | refine aD ?_)
       refine aM ?_
       refine fp ?_
       simp only [Chn.valid, inB] at *
       generalize c.kn.any (oM c.ps) = u at *
       generalize c.rs.any (qX c.pl c.ps) = v at *
       simp_all
       all_goals (first | (intros; omega) | (intros; exfalso; omega))
      ·replace hb6 := hB.h {} hb6
       iterate 5 refine x0 ?_
       iterate 2 refine v0 ?_
       apply aC
       repeat apply aA
       refine aL ?_
       repeat (first | refine aH ?_ | refine aF ?_ | refine aD ?_)
       refine aM ?_
       refine fp ?_
       simp only [Chn.valid, inB] at *
       generalize c.kn.any (oM c.ps) = u at *
       generalize c.rs.any (qX c.pl c.ps) = v at *
       simp_all
       all_goals (first | (intros; omega) | (intros; exfalso; omega))
     ·replace hb5 := hB.h {} hb5
      iterate 5 refine x0 ?_
      iterate 2 refine v0 ?_
      iterate 5 refine x0 ?_
      iterate 2 refine v0 ?_
      apply aC
      repeat apply aA
      refine aL ?_
      repeat (first | refine aH ?_ | refine aF ?_ | refine aD ?_)
      refine aM ?_
      refine fp ?_
      simp only [Chn.valid, inB] at *
      generalize c.kn.any (oM c.ps) = u at *
      generalize c.rs.any (qX c.pl c.ps) = v at *
      simp_all
      all_goals (first | (intros; omega) | (intros; exfalso; omega))
    ·replace hb4 := hB.h {} hb4
     iterate 4 refine x0 ?_
     iterate 2 refine v0 ?_
     iterate 5 refine x0 ?_
     iterate 2 refine v0 ?_
     iterate 5 refine x0 ?_
     iterate 2 refine v0 ?_
     apply aC
     repeat apply aA
     refine aL ?_
     repeat (first | refine aH ?_ | refine aF ?_ | refine aD ?_)
     refine aM ?_
     refine fp ?_
     simp only [Chn.valid, inB] at *
     generalize c.kn.any (oM c.ps) = u at *
     generalize c.rs.any (qX c.pl c.ps) = v at *
     simp_all
     all_goals (first | (intros; omega) | (intros; exfalso; omega))
   ·replace hb3 := hB.h {} hb3
    iterate 4 refine x0 ?_
    iterate 2 refine v0 ?_
    iterate 4 refine x0 ?_
    iterate 2 refine v0 ?_
    iterate 5 refine x0 ?_
    iterate 2 refine v0 ?_
    iterate 5 refine x0 ?_
    iterate 2 refine v0 ?_
    apply aC
    repeat apply aA
    refine aL ?_
    repeat (first | refine aH ?_ | refine aF ?_ | refine aD ?_)
    refine aM ?_
    refine fp ?_
    simp only [Chn.valid, inB] at *
    generalize c.kn.any (oM c.ps) = u at *
    generalize c.rs.any (qX c.pl c.ps) = v at *
    simp_all
    all_goals (first | (intros; omega) | (intros; exfalso; omega))
  ·replace hb2 := hB.h {} hb2
   iterate 3 refine x0 ?_
   iterate 2 refine v0 ?_
   apply aC
   refine cl [1, 4, 5, 6] ?_
   repeat apply aA
   apply aB
   iterate 2 refine v0 ?_
   iterate 4 refine x0 ?_
   iterate 2 refine v0 ?_
   iterate 4 refine x0 ?_
   iterate 2 refine v0 ?_
   iterate 5 refine x0 ?_
   iterate 2 refine v0 ?_
   iterate 5 refine x0 ?_
   iterate 2 refine v0 ?_
   apply aC
   repeat apply aA
   refine aL ?_
   repeat (first | refine aH ?_ | refine aF ?_ | refine aD ?_)
   refine aM ?_
   refine fp ?_
   simp only [Chn.valid, inB] at *
   generalize c.kn.any (oM c.ps) = u at *
   generalize c.rs.any (qX c.pl c.ps) = v at *
   simp_all
   all_goals (first | (intros; omega) | (intros; exfalso; omega))
 ·replace hb1 := hB.h {} hb1
  iterate 3 refine x0 ?_
  iterate 2 refine v0 ?_
  iterate 3 refine x0 ?_
  iterate 2 refine v0 ?_
  apply aC
  refine cl [1, 4, 5, 6] ?_
  repeat apply aA
  apply aB
  iterate 2 refine v0 ?_
  iterate 4 refine x0 ?_
  iterate 2 refine v0 ?_
  iterate 4 refine x0 ?_
  iterate 2 refine v0 ?_
  iterate 5 refine x0 ?_
  iterate 2 refine v0 ?_
  iterate 5 refine x0 ?_
  iterate 2 refine v0 ?_
  apply aC
  repeat apply aA
  refine aL ?_
  repeat (first | refine aH ?_ | refine aF ?_ | refine aD ?_)
  refine aM ?_
  refine fp ?_
  simp only [Chn.valid, inB] at *
  generalize c.kn.any (oM c.ps) = u at *
  generalize c.rs.any (qX c.pl c.ps) = v at *
  simp_all
  all_goals (first | (intros; omega) | (intros; exfalso; omega))
end
section
open Go.Gh
variable {E : Env Tryz.prog} {A : E.α}
structure aEb (c : Prop) : Prop where
 h : c := by (first | exact True.intro | omega | (simp only [inI]; omega) | (simp [P.size, bR, bF, bN, bB, cR, good, G.one, P.one, P.cells] <;> first | omega | assumption | simp_all))
structure aK5 (c : Prop) : Prop where
 h : c := by (first | exact True.intro | omega | (simp [P.size] <;> first | omega | (intro x a b _ h; subst h; rfl) | (intro x a b d _ h; subst h; rfl) | (intro a _; rfl)) | (simp [P.size]; exact ⟨by omega, fun a _ => rfl⟩) | omega | (simp only [inI]; omega) | (simp [P.size, bR, bF, bN, bB, cR, good, G.one, P.one, P.cells] <;> first | omega | assumption | simp_all))
theorem aJg : aJ Tryz.prog 140 := aJ.mk Tryz.func140 (by kernel_rfl) rfl
theorem aEc (s : Int × Int) : bZ Tryz.prog 140 [pSp s] (.ok (.bool (eZ s))) := by
 refine bS Tryz.func140 (rfl : Tryz.f140.body = some _) rfl ?_
 intro E A C hN hL
 replace hN : C.N = 6 := hN
 simp only [Gh.num, List.map_cons, List.map_nil, Nat.reduceAdd]
 have hpsp : ∀ s : Int × Int, pSp s = .agg [.int .i64 s.1, .int .i64 s.2] := fun _ => rfl
 repeat apply aA
 apply aB
 refine n1 110 false (hc := aEb.h {}) ?_
 refine v0 ?_
 apply aC
 refine cl [1] ?_
 repeat apply aA
 apply aB
 refine v0 ?_
 refine pc0 (spec := kX s.1 s.2 (-100) (100)) (hent := tI) ?_
 iterate 2 refine v0 ?_
 apply aC
 repeat apply aA
 refine aL ?_
 repeat (first | refine aH ?_ | refine aF ?_ | refine aD ?_)
 refine aM ?_
 refine fp ?_
 rfl
theorem aM8 : aJ Tryz.prog 141 := aJ.mk Tryz.func141 (by kernel_rfl) rfl
theorem aM9 (m : Msr) (hq : 1 ≤ m.im ∧ m.im ≤ 6) (he : m.er.length ≤ 40) (z : Stg) : Gh.bE E 141 [.p (fS z), .ptr [.p (.list (m.er.map pSp)), .p (.int .i64 m.ey.1), .p (.int .i64 m.ey.2), .p (.int .i64 m.im), .p (.int .i64 m.su.1), .p (.int .i64 m.su.2), .p (.list (m.se.map fS))], .ptr [.p (.int .i64 (m.er.length : Nat))]] (aG []) A (fun y => y = .ok (.p (.bool (sS m.im m.er.length z))) (aG []) A) := by
 refine spX 21 Tryz.func141 rfl ?_
 intro C hN hL
 simp only [Gh.num, List.map_cons, List.map_nil, Nat.reduceAdd]
 have hpsg : ∀ s : Stg, fS s = .agg [.int .i64 s.im, .int .i64 s.rd, .bool s.rv] := fun _ => rfl
 repeat apply aA
 apply aB
 refine n1 130 false (hc := aEb.h {}) ?_
 refine v0 ?_
 apply aC
 refine cl [1, 2, 3] ?_
 repeat apply aA
 apply aB
 iterate 4 refine v0 ?_
 refine v1 (hc := aEb.h {}) ?_
 refine pc0 (spec := gB _ _ _) (hent := mS) ?_
 iterate 2 refine v0 ?_
 refine b0 (k1 := fun hb1 => ?_) (k0 := fun hb1 => ?_)
 ·replace hb1 := hB.h {} hb1
  iterate 7 refine x0 ?_
  iterate 2 refine v0 ?_
  apply aC
  repeat apply aA
  refine aL ?_
  repeat (first | refine aH ?_ | refine aF ?_ | refine aD ?_)
  refine aM ?_
  refine fp ?_
  simp only [sS, inB] at *
  simp_all
 ·replace hb1 := hB.h {} hb1
  iterate 3 refine w0 ?_
  iterate 2 refine w1 (hc := aEb.h {}) ?_
  refine pcw (spec := gB _ _ _) (hent := mS) ?_
  refine w0 ?_
  iterate 2 refine v0 ?_
  apply aC
  repeat apply aA
  refine aL ?_
  repeat (first | refine aH ?_ | refine aF ?_ | refine aD ?_)
  refine aM ?_
  refine fp ?_
  simp only [sS, inB] at *
  simp_all
theorem aNa : aJ Tryz.prog 166 := aJ.mk Tryz.func166 (by kernel_rfl) rfl
theorem aNb (l : List (Int × Int)) (hl : l.length ≤ 1048576)  : Gh.bE E 166 [.p (.list (l.map pSp)), .p (.fn (.func 140) [] [])] (aG []) A (fun y => y = .ok (.p (.int .i64 (kZ eZ l 0))) (aG []) A) := by
 refine spX 19 Tryz.func166 rfl ?_
 intro C hN hL
 simp only [Gh.num, List.map_cons, List.map_nil, Nat.reduceAdd]
 have hpsp : ∀ s : Int × Int, pSp s = .agg [.int .i64 s.1, .int .i64 s.2] := fun _ => rfl
 repeat apply aA
 apply aB
 refine v0 ?_
 apply aC
 refine cl [0, 1] ?_
 repeat apply aA
 apply aB
 iterate 3 refine v0 ?_
 apply aC
 refine cl [0, 1, 7, 8] ?_
 repeat apply aA
 refine aP ?_
 repeat apply aA
 refine cI (fun mz σ => ∃ k : Nat, (k ≤ l.length) ∧ (kZ eZ l 0 = kZ eZ (l.drop k) k) ∧ mz = l.length - k ∧ σ = (sg [(0, .p (.list (l.map pSp))), (1, .p (.fn (.func 140) [] [])), (7, .p (.int .i64 l.length)), (8, .p (.int .i64 k))] [] A [] : Sg E)) ?_ (fun mz σ hI => ?_)
 ·refine gA [0, 1, 7, 8] ?_
  exact ⟨_, 0, by omega, by simp, rfl, rfl⟩
 obtain ⟨k, hk, hi, hn, rfl⟩ := hI
 repeat apply aA
 apply aB
 refine v0 ?_
 apply aC
 repeat apply aA
 refine cB (k1 := fun hb1 => ?_) (k0 := fun hb1 => ?_)
 ·replace hb1 := hB.h {} hb1
  repeat apply aA
  refine aR ?_
  refine cl [0, 1, 7, 8] ?_
  repeat apply aA
  refine aP ?_
  repeat apply aA
  apply aB
  iterate 2 refine v0 ?_
  apply aC
  refine cl [0, 1, 5, 7, 8] ?_
  repeat apply aA
  obtain ⟨x, hx⟩ := fQ (l := l) (k := k) (by omega)
  apply aB
  iterate 3 refine v0 ?_
  refine v1 (hc := aK5.h {}) ?_
  refine v0 ?_
  refine pc0 (spec := aEc x) (hent := aJg) ?_
  apply aC
  repeat apply aA
  refine cB (k1 := fun hb2 => ?_) (k0 := fun hb2 => ?_)
  ·replace hb2 := hB.h {} hb2
   repeat apply aA
   apply aB
   iterate 2 refine v0 ?_
   apply aC
   repeat apply aA
   refine aL ?_
   repeat (first | refine aH ?_ | refine aF ?_ | refine aD ?_)
   refine aM ?_
   refine fp ?_
   simp only [dS.at, cK.ok.injEq, G.p.injEq, P.int.injEq, true_and, and_true]
   first
   | (rw [hi, fB hx]; simp_all; done)
   | (rw [hi, List.drop_eq_nil_of_le (by omega)]; rfl)
  ·replace hb2 := hB.h {} hb2
   repeat apply aA
   refine aR ?_
   refine cl [0, 1, 7, 8] ?_
   repeat apply aA
   apply aB
   refine v1 (hc := aK5.h {}) ?_
   refine v0 ?_
   apply aC
   refine eC [0, 1, 7, 8] (h := ?_) (hV := ?_) (n' := l.length - (k + 1))
   ·omega
   exact ⟨k + 1, by omega, by rw [hi, fB hx]; simp_all, rfl, rfl⟩
 ·replace hb1 := hB.h {} hb1
  repeat apply aA
  refine bV ?_
  repeat (first | refine bH ?_ | refine aY ?_ | refine bC ?_ | refine bI rfl ?_)
  refine cl [] ?_
  repeat apply aA
  apply aB
  refine v0 ?_
  apply aC
  repeat apply aA
  refine aL ?_
  repeat (first | refine aH ?_ | refine aF ?_ | refine aD ?_)
  refine aM ?_
  refine fp ?_
  simp only [dS.at, cK.ok.injEq, G.p.injEq, P.int.injEq, true_and, and_true]
  first
  | (rw [hi, fB hx]; simp_all; done)
  | (rw [hi, List.drop_eq_nil_of_le (by omega)]; rfl)
theorem aNc : aJ Tryz.prog 142 := aJ.mk Tryz.func142 (by kernel_rfl) rfl
theorem aNd (l : List (Int × Int)) (hl : l.length ≤ 1048576)  : Gh.bE E 142 [.p (.list (l.map pSp)), .p (.fn (.func 140) [] [])] (aG []) A (fun y => y = .ok (.p (.bool (l.any eZ))) (aG []) A) := by
 refine spX 9 Tryz.func142 rfl ?_
 intro C hN hL
 simp only [Gh.num, List.map_cons, List.map_nil, Nat.reduceAdd]
 repeat apply aA
 apply aB
 refine v0 ?_
 apply aC
 refine cl [0, 1] ?_
 repeat apply aA
 apply aB
 iterate 2 refine v0 ?_
 refine oc0 [] [] [0, 0] none (spec := aNb l hl ) (hent := aNa) ?_
 iterate 2 refine v0 ?_
 apply aC
 repeat apply aA
 refine aL ?_
 repeat (first | refine aH ?_ | refine aF ?_ | refine aD ?_)
 refine aM ?_
 refine fp ?_
 rw [← nN eZ l 0]
theorem aNe : aJ Tryz.prog 167 := aJ.mk Tryz.func167 (by kernel_rfl) rfl
theorem aNf (l : List (Stg)) (hl : l.length ≤ 1048576) (m : Msr) (hq : 1 ≤ m.im ∧ m.im ≤ 6) (he : m.er.length ≤ 40) : Gh.bE E 167 [.p (.list (l.map fS)), .fn (.func 141) [] [.ptr [.p (.list (m.er.map pSp)), .p (.int .i64 m.ey.1), .p (.int .i64 m.ey.2), .p (.int .i64 m.im), .p (.int .i64 m.su.1), .p (.int .i64 m.su.2), .p (.list (m.se.map fS))], .ptr [.p (.int .i64 (m.er.length : Nat))]]] (aG []) A (fun y => y = .ok (.p (.int .i64 (kZ (sS m.im m.er.length) l 0))) (aG []) A) := by
 refine spX 19 Tryz.func167 rfl ?_
 intro C hN hL
 simp only [Gh.num, List.map_cons, List.map_nil, Nat.reduceAdd]
 have hpsg : ∀ s : Stg, fS s = .agg [.int .i64 s.im, .int .i64 s.rd, .bool s.rv] := fun _ => rfl
 repeat apply aA
 apply aB
 refine v0 ?_
 apply aC
 refine cl [0, 1] ?_
 repeat apply aA
 apply aB
 iterate 3 refine v0 ?_
 apply aC
 refine cl [0, 1, 7, 8] ?_
 repeat apply aA
 refine aP ?_
 repeat apply aA
 refine cI (fun mz σ => ∃ k : Nat, (k ≤ l.length) ∧ (kZ (sS m.im m.er.length) l 0 = kZ (sS m.im m.er.length) (l.drop k) k) ∧ mz = l.length - k ∧ σ = (sg [(0, .p (.list (l.map fS))), (1, .fn (.func 141) [] [.ptr [.p (.list (m.er.map pSp)), .p (.int .i64 m.ey.1), .p (.int .i64 m.ey.2), .p (.int .i64 m.im), .p (.int .i64 m.su.1), .p (.int .i64 m.su.2), .p (.list (m.se.map fS))], .ptr [.p (.int .i64 (m.er.length : Nat))]]), (7, .p (.int .i64 l.length)), (8, .p (.int .i64 k))] [] A [] : Sg E)) ?_ (fun mz σ hI => ?_)
 ·refine gA [0, 1, 7, 8] ?_
  exact ⟨_, 0, by omega, by simp, rfl, rfl⟩
 obtain ⟨k, hk, hi, hn, rfl⟩ := hI
 repeat apply aA
 apply aB
 refine v0 ?_
 apply aC
 repeat apply aA
 refine cB (k1 := fun hb1 => ?_) (k0 := fun hb1 => ?_)
 ·replace hb1 := hB.h {} hb1
  repeat apply aA
  refine aR ?_
  refine cl [0, 1, 7, 8] ?_
  repeat apply aA
  refine aP ?_
  repeat apply aA
  apply aB
  iterate 2 refine v0 ?_
  apply aC
  refine cl [0, 1, 5, 7, 8] ?_
  repeat apply aA
  obtain ⟨x, hx⟩ := fQ (l := l) (k := k) (by omega)
  apply aB
  iterate 3 refine v0 ?_
  refine v1 (hc := aK5.h {}) ?_
  refine v0 ?_
  refine oc0 [] [] [0, 0, 0] none (spec := aM9 m hq he x) (hent := aM8) ?_
  apply aC
  repeat apply aA
  refine cB (k1 := fun hb2 => ?_) (k0 := fun hb2 => ?_)
  ·replace hb2 := hB.h {} hb2
   repeat apply aA
   apply aB
   iterate 2 refine v0 ?_
   apply aC
   repeat apply aA
   refine aL ?_
   repeat (first | refine aH ?_ | refine aF ?_ | refine aD ?_)
   refine aM ?_
   refine fp ?_
   simp only [dS.at, cK.ok.injEq, G.p.injEq, P.int.injEq, true_and, and_true]
   first
   | (rw [hi, fB hx]; simp_all; done)
   | (rw [hi, List.drop_eq_nil_of_le (by omega)]; rfl)
  ·replace hb2 := hB.h {} hb2
   repeat apply aA
   refine aR ?_
   refine cl [0, 1, 7, 8] ?_
   repeat apply aA
   apply aB
   refine v1 (hc := aK5.h {}) ?_
   refine v0 ?_
   apply aC
   refine eC [0, 1, 7, 8] (h := ?_) (hV := ?_) (n' := l.length - (k + 1))
   ·omega
   exact ⟨k + 1, by omega, by rw [hi, fB hx]; simp_all, rfl, rfl⟩
 ·replace hb1 := hB.h {} hb1
  repeat apply aA
  refine bV ?_
  repeat (first | refine bH ?_ | refine aY ?_ | refine bC ?_ | refine bI rfl ?_)
  refine cl [] ?_
  repeat apply aA
  apply aB
  refine v0 ?_
  apply aC
  repeat apply aA
  refine aL ?_
  repeat (first | refine aH ?_ | refine aF ?_ | refine aD ?_)
  refine aM ?_
  refine fp ?_
  simp only [dS.at, cK.ok.injEq, G.p.injEq, P.int.injEq, true_and, and_true]
  first
  | (rw [hi, fB hx]; simp_all; done)
  | (rw [hi, List.drop_eq_nil_of_le (by omega)]; rfl)
theorem aNg : aJ Tryz.prog 143 := aJ.mk Tryz.func143 (by kernel_rfl) rfl
theorem aNh (l : List (Stg)) (hl : l.length ≤ 1048576) (m : Msr) (hq : 1 ≤ m.im ∧ m.im ≤ 6) (he : m.er.length ≤ 40) : Gh.bE E 143 [.p (.list (l.map fS)), .fn (.func 141) [] [.ptr [.p (.list (m.er.map pSp)), .p (.int .i64 m.ey.1), .p (.int .i64 m.ey.2), .p (.int .i64 m.im), .p (.int .i64 m.su.1), .p (.int .i64 m.su.2), .p (.list (m.se.map fS))], .ptr [.p (.int .i64 (m.er.length : Nat))]]] (aG []) A (fun y => y = .ok (.p (.bool (l.any (sS m.im m.er.length)))) (aG []) A) := by
 refine spX 9 Tryz.func143 rfl ?_
 intro C hN hL
 simp only [Gh.num, List.map_cons, List.map_nil, Nat.reduceAdd]
 repeat apply aA
 apply aB
 refine v0 ?_
 apply aC
 refine cl [0, 1] ?_
 repeat apply aA
 apply aB
 iterate 2 refine v0 ?_
 refine oc0 [] [] [0, 0] none (spec := aNf l hl m hq he) (hent := aNe) ?_
 iterate 2 refine v0 ?_
 apply aC
 repeat apply aA
 refine aL ?_
 repeat (first | refine aH ?_ | refine aF ?_ | refine aD ?_)
 refine aM ?_
 refine fp ?_
 rw [← nN (sS m.im m.er.length) l 0]
theorem aJh : aJ Tryz.prog 102 := aJ.mk Tryz.func102 (by kernel_rfl) rfl
theorem aGb (m : Msr) (h1 : m.er.length ≤ 1048576) (h2 : m.se.length ≤ 1048576) : Gh.bE E 102 [.p (jT m)] (aG []) A (fun y => y = .ok (.p (.bool m.valid)) (aG []) A) := by
 refine spX 54 Tryz.func102 rfl ?_
 intro C hN hL
 simp only [Gh.num, List.map_cons, List.map_nil, Nat.reduceAdd]
 unfold jT
 have hpsp : ∀ s : Int × Int, pSp s = .agg [.int .i64 s.1, .int .i64 s.2] := fun _ => rfl
 have hpsg : ∀ s : Stg, fS s = .agg [.int .i64 s.im, .int .i64 s.rd, .bool s.rv] := fun _ => rfl
 repeat apply aA
 apply aB
 refine n1 110 false (hc := aEb.h {}) ?_
 refine v0 ?_
 apply aC
 refine cl [1] ?_
 repeat apply aA
 apply aB
 refine v0 ?_
 apply aC
 refine cl [1, 3] ?_
 repeat apply aA
 apply aB
 iterate 4 refine v0 ?_
 refine n1 140 false (hc := aEb.h {}) ?_
 refine s1 (hc := aEb.h {}) ?_
 apply aC
 refine cl [1, 3, 4] ?_
 repeat apply aA
 refine fz 110 7 [.k, .k, .k, .k, .k, .k, .k] ?_
 refine fz 140 1 [.k] ?_
 apply aB
 iterate 2 refine v0 ?_
 apply aC
 refine cl [1, 3, 4, 5] ?_
 repeat apply aA
 refine cv 5 (.f [.n [.k, .k, .k, .k, .k, .k, .k], .n [.k]]) ?_
 apply aB
 refine v0 ?_
 refine pc0 (spec := gB _ _ _) (hent := mS) ?_
 refine v0 ?_
 refine b0 (k1 := fun hb1 => ?_) (k0 := fun hb1 => ?_)
 ·replace hb1 := hB.h {} hb1
  iterate 4 refine w0 ?_
  refine pcw (spec := aEc m.ey) (hent := aJg) ?_
  refine w0 ?_
  iterate 2 refine v0 ?_
  refine b0 (k1 := fun hb2 => ?_) (k0 := fun hb2 => ?_)
  ·replace hb2 := hB.h {} hb2
   iterate 4 refine w0 ?_
   refine ocw [] [] [0, 0] none (spec := aNd m.er h1) (hent := aNc) ?_
   refine w0 ?_
   iterate 2 refine v0 ?_
   apply aC
   refine cl [1, 5, 6] ?_
   repeat apply aA
   apply aB
   iterate 2 refine v0 ?_
   refine b0 (k1 := fun hb3 => ?_) (k0 := fun hb3 => ?_)
   ·replace hb3 := hB.h {} hb3
    iterate 2 refine w0 ?_
    refine pcw (spec := gB _ _ _) (hent := mS) ?_
    iterate 2 refine v0 ?_
    refine b0 (k1 := fun hb4 => ?_) (k0 := fun hb4 => ?_)
    ·replace hb4 := hB.h {} hb4
     iterate 2 refine w0 ?_
     refine pcw (spec := kX m.su.1 m.su.2 (0) (131072)) (hent := tI) ?_
     iterate 2 refine v0 ?_
     refine b0 (k1 := fun hb5 => ?_) (k0 := fun hb5 => ?_)
     ·replace hb5 := hB.h {} hb5
      iterate 4 refine w0 ?_
      iterate 2 refine v0 ?_
      refine b0 (k1 := fun hb6 => ?_) (k0 := fun hb6 => ?_)
      ·replace hb6 := hB.h {} hb6
       iterate 3 refine w0 ?_
       refine ocw [] [] [0, 0] none (spec := aNh m.se h2 m (by omega) (by omega)) (hent := aNg) ?_
       refine w0 ?_
       iterate 2 refine v0 ?_
       apply aC
       repeat apply aA
       refine aL ?_
       repeat (first | refine aH ?_ | refine aF ?_ | refine aD ?_)
       refine aM ?_
       refine fp ?_
       have hwe : eZ m.ey = !spB (-100) 100 m.ey := rfl
       simp only [Msr.valid, inB, spB] at *
       generalize m.er.any eZ = u at *
       generalize m.se.any (sS m.im m.er.length) = v at *
       simp_all
       all_goals (first | (intros; omega) | (intros; exfalso; omega))
      ·replace hb6 := hB.h {} hb6
       iterate 5 refine x0 ?_
       iterate 2 refine v0 ?_
       apply aC
       repeat apply aA
       refine aL ?_
       repeat (first | refine aH ?_ | refine aF ?_ | refine aD ?_)
       refine aM ?_
       refine fp ?_
       have hwe : eZ m.ey = !spB (-100) 100 m.ey := rfl
       simp only [Msr.valid, inB, spB] at *
       generalize m.er.any eZ = u at *
       generalize m.se.any (sS m.im m.er.length) = v at *
       simp_all
       all_goals (first | (intros; omega) | (intros; exfalso; omega))
     ·replace hb5 := hB.h {} hb5
      iterate 4 refine x0 ?_
      iterate 2 refine v0 ?_
      iterate 5 refine x0 ?_
      iterate 2 refine v0 ?_
      apply aC
      repeat apply aA
      refine aL ?_
      repeat (first | refine aH ?_ | refine aF ?_ | refine aD ?_)
      refine aM ?_
      refine fp ?_
      have hwe : eZ m.ey = !spB (-100) 100 m.ey := rfl
      simp only [Msr.valid, inB, spB] at *
      generalize m.er.any eZ = u at *
      generalize m.se.any (sS m.im m.er.length) = v at *
      simp_all
      all_goals (first | (intros; omega) | (intros; exfalso; omega))
    ·replace hb4 := hB.h {} hb4
     iterate 3 refine x0 ?_
     iterate 2 refine v0 ?_
     iterate 4 refine x0 ?_
     iterate 2 refine v0 ?_
     iterate 5 refine x0 ?_
     iterate 2 refine v0 ?_
     apply aC
     repeat apply aA
     refine aL ?_
     repeat (first | refine aH ?_ | refine aF ?_ | refine aD ?_)
     refine aM ?_
     refine fp ?_
     have hwe : eZ m.ey = !spB (-100) 100 m.ey := rfl
     simp only [Msr.valid, inB, spB] at *
     generalize m.er.any eZ = u at *
     generalize m.se.any (sS m.im m.er.length) = v at *
     simp_all
     all_goals (first | (intros; omega) | (intros; exfalso; omega))
   ·replace hb3 := hB.h {} hb3
    iterate 3 refine x0 ?_
    iterate 2 refine v0 ?_
    iterate 3 refine x0 ?_
    iterate 2 refine v0 ?_
    iterate 4 refine x0 ?_
    iterate 2 refine v0 ?_
    iterate 5 refine x0 ?_
    iterate 2 refine v0 ?_
    apply aC
    repeat apply aA
    refine aL ?_
    repeat (first | refine aH ?_ | refine aF ?_ | refine aD ?_)
    refine aM ?_
    refine fp ?_
    have hwe : eZ m.ey = !spB (-100) 100 m.ey := rfl
    simp only [Msr.valid, inB, spB] at *
    generalize m.er.any eZ = u at *
    generalize m.se.any (sS m.im m.er.length) = v at *
    simp_all
    all_goals (first | (intros; omega) | (intros; exfalso; omega))
  ·replace hb2 := hB.h {} hb2
   iterate 6 refine x0 ?_
   iterate 2 refine v0 ?_
   apply aC
   refine cl [1, 5, 6] ?_
   repeat apply aA
   apply aB
   iterate 2 refine v0 ?_
   iterate 3 refine x0 ?_
   iterate 2 refine v0 ?_
   iterate 3 refine x0 ?_
   iterate 2 refine v0 ?_
   iterate 4 refine x0 ?_
   iterate 2 refine v0 ?_
   iterate 5 refine x0 ?_
   iterate 2 refine v0 ?_
   apply aC
   repeat apply aA
   refine aL ?_
   repeat (first | refine aH ?_ | refine aF ?_ | refine aD ?_)
   refine aM ?_
   refine fp ?_
   have hwe : eZ m.ey = !spB (-100) 100 m.ey := rfl
   simp only [Msr.valid, inB, spB] at *
   generalize m.er.any eZ = u at *
   generalize m.se.any (sS m.im m.er.length) = v at *
   simp_all
   all_goals (first | (intros; omega) | (intros; exfalso; omega))
 ·replace hb1 := hB.h {} hb1
  iterate 6 refine x0 ?_
  iterate 2 refine v0 ?_
  iterate 6 refine x0 ?_
  iterate 2 refine v0 ?_
  apply aC
  refine cl [1, 5, 6] ?_
  repeat apply aA
  apply aB
  iterate 2 refine v0 ?_
  iterate 3 refine x0 ?_
  iterate 2 refine v0 ?_
  iterate 3 refine x0 ?_
  iterate 2 refine v0 ?_
  iterate 4 refine x0 ?_
  iterate 2 refine v0 ?_
  iterate 5 refine x0 ?_
  iterate 2 refine v0 ?_
  apply aC
  repeat apply aA
  refine aL ?_
  repeat (first | refine aH ?_ | refine aF ?_ | refine aD ?_)
  refine aM ?_
  refine fp ?_
  have hwe : eZ m.ey = !spB (-100) 100 m.ey := rfl
  simp only [Msr.valid, inB, spB] at *
  generalize m.er.any eZ = u at *
  generalize m.se.any (sS m.im m.er.length) = v at *
  simp_all
  all_goals (first | (intros; omega) | (intros; exfalso; omega))
end
end Go.Proofs.YtecmhhpccmaeiaaGreatDoor
