/- What functions of the program return, each for every input that its theorem names. Made small by a program of ours. -/
import Derived.Test.YtecmhhpccmaeiaaGreatDoorC2
import Derived.Lib.AtoiTie
set_option linter.unusedVariables false
set_option linter.unusedSimpArgs false
set_option maxRecDepth 100000
set_option maxHeartbeats 4000000
namespace Go.Proofs.YtecmhhpccmaeiaaGreatDoor
section
open Go.Gh
variable {E : Env Tryz.prog} {A : E.α}
structure vJ (c : Prop) : Prop where
 h : c := by (first | exact True.intro | omega | (simp only [inI]; omega) | (simp [P.size, bR, bF, bN, bB, cR, good, G.one, P.one, P.cells] <;> first | omega | assumption | simp_all))
theorem tL {lo hi : Int} {s : Int × Int} (h : spB lo hi s = true) (h1 : -1000000000 ≤ lo) (h2 : hi ≤ 1000000000) : (Pt.sp s.1 s.2).ok := by
 simp only [spB, Bool.and_eq_true, decide_eq_true_eq] at h
 simp only [Pt.ok, oH]; omega
theorem qY {lo hi n : Int} (h : inB lo hi n = true) (h1 : -1000000000 ≤ lo) (h2 : hi ≤ 1000000000) : (Pt.n n).ok := by
 simp only [inB, Bool.and_eq_true, decide_eq_true_eq] at h
 simp only [Pt.ok, oH]; omega
theorem aBA {s : Str} (h : s.length ≤ 100) : (Pt.w s).ok := h
theorem jP {α : Type} {l : List α} {q : α → Bool} (h : (!l.any q) = true) {x : α} (hx : x ∈ l) : q x = false := by
 cases e : q x with
 | false => rfl
 | true => rw [List.any_eq_true.2 ⟨x, hx, e⟩] at h; cases h
theorem aOh {a b : Pt} (ha : a.ok) (hb : b.ok) : ∀ p ∈ [a, b], p.ok := by simp only [List.mem_cons, List.not_mem_nil, or_false]; rintro p (rfl | rfl) <;> assumption
theorem aNi {a b c : Pt} (ha : a.ok) (hb : b.ok) (hc : c.ok) : ∀ p ∈ [a, b, c], p.ok := by simp only [List.mem_cons, List.not_mem_nil, or_false]; rintro p (rfl | rfl | rfl) <;> assumption
theorem aNj {a b c d : Pt} (ha : a.ok) (hb : b.ok) (hc : c.ok) (hd : d.ok) : ∀ p ∈ [a, b, c, d], p.ok := by simp only [List.mem_cons, List.not_mem_nil, or_false]; rintro p (rfl | rfl | rfl | rfl) <;> assumption
theorem aPb {a b c d e f : Pt} (ha : a.ok) (hb : b.ok) (hc : c.ok) (hd : d.ok) (he : e.ok) (hf : f.ok) : ∀ p ∈ [a, b, c, d, e, f], p.ok := by simp only [List.mem_cons, List.not_mem_nil, or_false]; rintro p (rfl | rfl | rfl | rfl | rfl | rfl) <;> assumption
theorem aK6 {s : mV} (h : fC s = false) : (∀ p ∈ oJ s, p.ok) ∧ 0 < (oJ s).length ∧ (oJ s).length ≤ 10 := by
 simp only [fC, Bool.or_eq_false_iff, Bool.not_eq_false'] at h
 obtain ⟨⟨h1, h2⟩, h3⟩ := h
 have hx := tL h1 (by omega) (by omega)
 have hy := tL h2 (by omega) (by omega)
 simp only [jO, Bool.or_eq_true, Bool.and_eq_true] at h3
 unfold oJ
 split
 ·rename_i hk
  rcases h3 with ⟨⟨_, h4⟩, h5⟩ | ⟨⟨h4, _⟩, _⟩
  ·exact ⟨aPb (aBA (by decide)) hx hy (aBA (by decide)) (tL h4 (by omega) (by omega)) (tL h5 (by omega) (by omega)), by simp, by simp⟩
  ·rw [hk] at h4; cases h4
 ·exact ⟨aNi (aBA (by decide)) hx hy, by simp, by simp⟩
theorem aJi {p : Plt} (h : p.valid = true) : okL (iA p) ∧ p.st.length ≤ 10 := by
 simp only [Plt.valid, Bool.and_eq_true, decide_eq_true_eq] at h
 obtain ⟨⟨h1, h2⟩, h3⟩ := h
 refine ⟨fun l hl => ?_, by omega⟩
 rcases List.mem_cons.1 hl with rfl | hl
 ·exact ⟨aOh (aBA (by decide)) (tL h1 (by omega) (by omega)), by simp [zU], by simp [zU]⟩
 ·obtain ⟨s, hs, rfl⟩ := List.mem_map.1 hl
  exact aK6 (jP h3 hs)
theorem aLD {ps : Int} {k : Int × Int} (h : oM ps k = false) (hp : ps ≤ 8) : (Pt.n k.1).ok ∧ (Pt.n k.2).ok := by
 simp only [oM, Bool.not_eq_false', Bool.and_eq_true] at h
 exact ⟨qY h.1.2 (by omega) (by omega), qY h.2 (by omega) (by omega)⟩
theorem aJj {c : Chn} (h : c.valid = true) : okL (gW c) ∧ c.kn.length ≤ 28 ∧ c.rs.length ≤ 12 := by
 simp only [Chn.valid, Bool.and_eq_true, decide_eq_true_eq] at h
 obtain ⟨⟨⟨⟨⟨⟨h1, h2⟩, h3⟩, h4⟩, h5⟩, h6⟩, h7⟩ := h
 have hps : c.ps ≤ 8 := by simp only [inB, Bool.and_eq_true, decide_eq_true_eq] at h2; omega
 have hpl : c.pl ≤ 4 := by simp only [inB, Bool.and_eq_true, decide_eq_true_eq] at h1; omega
 refine ⟨fun l hl => ?_, by omega, by omega⟩
 rcases List.mem_cons.1 hl with rfl | hl
 ·exact ⟨aNj (aBA (by decide)) (qY h1 (by omega) (by omega)) (qY h2 (by omega) (by omega)) (qY h3 (by omega) (by omega)), by simp [zV], by simp [zV]⟩
 ·rcases List.mem_append.1 hl with hl | hl
  ·obtain ⟨s, hs, rfl⟩ := List.mem_map.1 hl
   have := aLD (jP h6 hs) hps
   exact ⟨aNi (aBA (by decide)) this.1 this.2, by simp [knL], by simp [knL]⟩
  ·obtain ⟨s, hs, rfl⟩ := List.mem_map.1 hl
   have h8 := jP h7 hs
   simp only [qX, Bool.or_eq_false_iff, Bool.not_eq_false'] at h8
   have := aLD h8.1 hps
   exact ⟨aNj (aBA (by decide)) (qY h8.2 (by omega) (by omega)) this.1 this.2, by simp [rcL], by simp [rcL]⟩
theorem aJk {m : Msr} (h : m.valid = true) : okL (gK m) ∧ m.er.length ≤ 40 ∧ m.se.length ≤ 12 := by
 simp only [Msr.valid, Bool.and_eq_true, decide_eq_true_eq] at h
 obtain ⟨⟨⟨⟨⟨⟨h1, h2⟩, h3⟩, h4⟩, h5⟩, h6⟩, h7⟩ := h
 have hn : m.er.length ≤ 40 := by simp only [inB, Bool.and_eq_true, decide_eq_true_eq] at h1; omega
 have him : m.im ≤ 6 := by simp only [inB, Bool.and_eq_true, decide_eq_true_eq] at h4; omega
 refine ⟨fun l hl => ?_, hn, by omega⟩
 rcases List.mem_cons.1 hl with rfl | hl
 ·exact ⟨aNj (aBA (by decide)) (qY h4 (by omega) (by omega)) (tL h5 (by omega) (by omega)) (tL h2 (by omega) (by omega)), by simp [zW], by simp [zW]⟩
 ·rcases List.mem_append.1 hl with hl | hl
  ·obtain ⟨s, hs, rfl⟩ := List.mem_map.1 hl
   have h8 := jP h3 hs
   simp only [eZ, Bool.not_eq_false'] at h8
   exact ⟨aOh (aBA (by decide)) (tL h8 (by omega) (by omega)), by simp [erL], by simp [erL]⟩
  ·obtain ⟨s, hs, rfl⟩ := List.mem_map.1 hl
   have h8 := jP h7 hs
   simp only [sS, Bool.or_eq_false_iff, Bool.not_eq_false'] at h8
   exact ⟨aNi (aBA (by unfold aK2; split <;> decide)) (qY h8.1 (by omega) (by omega)) (qY h8.2 (by omega) (by omega)), by simp [seL], by simp [seL]⟩
theorem yE {ls : List (List Pt)} {l : List Pt} : txt (l :: ls) ≠ [] := by simp [txt, fL]
theorem aJl : aJ Tryz.prog 94 := aJ.mk Tryz.func94 (by kernel_rfl) rfl
theorem aGc : aJ Tryz.prog 57 := aJ.mk Tryz.func57 (by kernel_rfl) rfl
theorem qZ (b : Plt) (hv : b.valid = true) (es : List (P × P)) : Gh.bE E 57 [.p (nF b), .agg [.p (.fn (.func 112) [] []), .map 0, .p (.fn (.func 115) [] [])]] (aG [(0, .map es)]) A (fun y => y = .ok (.p (.tuple [.str (txt (iA b)), .int .i64 0])) (aG [(0, .map es)]) A) := by
 refine spX 18 Tryz.func57 rfl ?_
 intro C hN hL
 simp only [Gh.num, List.map_cons, List.map_nil, Nat.reduceAdd]
 have hpne : txt (iA b) ≠ [] := yE
 have hlen := (aJi hv).2
 unfold nF
 repeat apply aA
 apply aB
 refine n1 120 false (hc := vJ.h {}) ?_
 refine n1 130 false (hc := vJ.h {}) ?_
 iterate 2 refine v0 ?_
 apply aC
 refine cl [2, 3] ?_
 repeat apply aA
 apply aB
 iterate 3 refine v0 ?_
 refine oc0 [] [] [0] none (spec := aB8 b (by omega)) (hent := aJd) ?_
 refine rb 10 true (h := by (exact hv)) ?_
 refine v0 ?_
 apply aC
 repeat apply aA
 refine cF ?_
 repeat apply aA
 refine aR ?_
 refine cl [2, 3] ?_
 repeat apply aA
 apply aB
 refine n1 160 true (hc := vJ.h {}) ?_
 apply aC
 refine cl [2, 3, 6] ?_
 repeat apply aA
 apply aB
 iterate 3 refine v0 ?_
 refine oc0 [(0, 160), (3000, 3000)] [] [0, 0] none (spec := aFg b (aJi hv).1 (by omega)) (hent := aMP) ?_
 apply aC
 refine cl [3, 6] ?_
 repeat apply aA
 apply aB
 refine v0 ?_
 refine oc0 [(0, 160), (1, 3000)] [] [0] none (spec := aA3 (txt (iA b)) hpne) (hent := aJl) ?_
 iterate 2 refine v0 ?_
 apply aC
 repeat apply aA
 refine aL ?_
 repeat (first | refine aH ?_ | refine aF ?_ | refine aD ?_)
 refine aM ?_
 refine fh2 [0] ?_
 rfl
theorem aCY (b : Plt) (hv : b.valid = false) (hl : b.st.length ≤ 1048576) (es : List (P × P)) : Gh.bE E 57 [.p (nF b), .agg [.p (.fn (.func 112) [] []), .map 0, .p (.fn (.func 115) [] [])]] (aG [(0, .map es)]) A (fun y => y = .ok (.p (.tuple [.str [], .int .i64 1])) (aG [(0, .map es)]) A) := by
 refine spX 18 Tryz.func57 rfl ?_
 intro C hN hL
 simp only [Gh.num, List.map_cons, List.map_nil, Nat.reduceAdd]
 have hpne : txt (iA b) ≠ [] := yE
 unfold nF
 repeat apply aA
 apply aB
 refine n1 120 false (hc := vJ.h {}) ?_
 refine n1 130 false (hc := vJ.h {}) ?_
 iterate 2 refine v0 ?_
 apply aC
 refine cl [2, 3] ?_
 repeat apply aA
 apply aB
 iterate 3 refine v0 ?_
 refine oc0 [] [] [0] none (spec := aB8 b (by omega)) (hent := aJd) ?_
 refine rb 10 false (h := by (exact hv)) ?_
 refine v0 ?_
 apply aC
 repeat apply aA
 refine cT ?_
 repeat apply aA
 apply aB
 iterate 2 refine v0 ?_
 apply aC
 repeat apply aA
 refine aL ?_
 repeat (first | refine aH ?_ | refine aF ?_ | refine aD ?_)
 refine aM ?_
 refine fh2 [0] ?_
 rfl
theorem aGd : aJ Tryz.prog 62 := aJ.mk Tryz.func62 (by kernel_rfl) rfl
theorem rA (b : Chn) (hv : b.valid = true) (es : List (P × P)) : Gh.bE E 62 [.p (nG b), .agg [.p (.fn (.func 120) [] []), .map 0, .p (.fn (.func 124) [] [])]] (aG [(0, .map es)]) A (fun y => y = .ok (.p (.tuple [.str (txt (gW b)), .int .i64 0])) (aG [(0, .map es)]) A) := by
 refine spX 18 Tryz.func62 rfl ?_
 intro C hN hL
 simp only [Gh.num, List.map_cons, List.map_nil, Nat.reduceAdd]
 have hpne : txt (gW b) ≠ [] := yE
 have hlen := (aJj hv).2
 unfold nG
 repeat apply aA
 apply aB
 refine n1 120 false (hc := vJ.h {}) ?_
 refine n1 130 false (hc := vJ.h {}) ?_
 iterate 2 refine v0 ?_
 apply aC
 refine cl [2, 3] ?_
 repeat apply aA
 apply aB
 iterate 3 refine v0 ?_
 refine oc0 [] [] [0] none (spec := aB9 b (by omega) (by omega)) (hent := aJf) ?_
 refine rb 10 true (h := by (exact hv)) ?_
 refine v0 ?_
 apply aC
 repeat apply aA
 refine cF ?_
 repeat apply aA
 refine aR ?_
 refine cl [2, 3] ?_
 repeat apply aA
 apply aB
 refine n1 160 true (hc := vJ.h {}) ?_
 apply aC
 refine cl [2, 3, 6] ?_
 repeat apply aA
 apply aB
 iterate 3 refine v0 ?_
 refine oc0 [(0, 160), (3000, 3000)] [] [0, 0] none (spec := aFh b (aJj hv).1 (by omega) (by omega)) (hent := aMQ) ?_
 apply aC
 refine cl [3, 6] ?_
 repeat apply aA
 apply aB
 refine v0 ?_
 refine oc0 [(0, 160), (1, 3000)] [] [0] none (spec := aA3 (txt (gW b)) hpne) (hent := aJl) ?_
 iterate 2 refine v0 ?_
 apply aC
 repeat apply aA
 refine aL ?_
 repeat (first | refine aH ?_ | refine aF ?_ | refine aD ?_)
 refine aM ?_
 refine fh2 [0] ?_
 rfl
theorem aCZ (b : Chn) (hv : b.valid = false) (hl : b.kn.length ≤ 1048576) (hl2 : b.rs.length ≤ 1048576) (es : List (P × P)) : Gh.bE E 62 [.p (nG b), .agg [.p (.fn (.func 120) [] []), .map 0, .p (.fn (.func 124) [] [])]] (aG [(0, .map es)]) A (fun y => y = .ok (.p (.tuple [.str [], .int .i64 1])) (aG [(0, .map es)]) A) := by
 refine spX 18 Tryz.func62 rfl ?_
 intro C hN hL
 simp only [Gh.num, List.map_cons, List.map_nil, Nat.reduceAdd]
 have hpne : txt (gW b) ≠ [] := yE
 unfold nG
 repeat apply aA
 apply aB
 refine n1 120 false (hc := vJ.h {}) ?_
 refine n1 130 false (hc := vJ.h {}) ?_
 iterate 2 refine v0 ?_
 apply aC
 refine cl [2, 3] ?_
 repeat apply aA
 apply aB
 iterate 3 refine v0 ?_
 refine oc0 [] [] [0] none (spec := aB9 b (by omega) (by omega)) (hent := aJf) ?_
 refine rb 10 false (h := by (exact hv)) ?_
 refine v0 ?_
 apply aC
 repeat apply aA
 refine cT ?_
 repeat apply aA
 apply aB
 iterate 2 refine v0 ?_
 apply aC
 repeat apply aA
 refine aL ?_
 repeat (first | refine aH ?_ | refine aF ?_ | refine aD ?_)
 refine aM ?_
 refine fh2 [0] ?_
 rfl
theorem aGe : aJ Tryz.prog 49 := aJ.mk Tryz.func49 (by kernel_rfl) rfl
theorem rB (b : Msr) (hv : b.valid = true) (es : List (P × P)) : Gh.bE E 49 [.p (jT b), .agg [.p (.fn (.func 95) [] []), .map 0, .p (.fn (.func 102) [] [])]] (aG [(0, .map es)]) A (fun y => y = .ok (.p (.tuple [.str (txt (gK b)), .int .i64 0])) (aG [(0, .map es)]) A) := by
 refine spX 18 Tryz.func49 rfl ?_
 intro C hN hL
 simp only [Gh.num, List.map_cons, List.map_nil, Nat.reduceAdd]
 have hpne : txt (gK b) ≠ [] := yE
 have hlen := (aJk hv).2
 unfold jT
 repeat apply aA
 apply aB
 refine n1 120 false (hc := vJ.h {}) ?_
 refine n1 130 false (hc := vJ.h {}) ?_
 iterate 2 refine v0 ?_
 apply aC
 refine cl [2, 3] ?_
 repeat apply aA
 apply aB
 iterate 3 refine v0 ?_
 refine oc0 [] [] [0] none (spec := aGb b (by omega) (by omega)) (hent := aJh) ?_
 refine rb 10 true (h := by (exact hv)) ?_
 refine v0 ?_
 apply aC
 repeat apply aA
 refine cF ?_
 repeat apply aA
 refine aR ?_
 refine cl [2, 3] ?_
 repeat apply aA
 apply aB
 refine n1 160 true (hc := vJ.h {}) ?_
 apply aC
 refine cl [2, 3, 6] ?_
 repeat apply aA
 apply aB
 iterate 3 refine v0 ?_
 refine oc0 [(0, 160), (3000, 3000)] [] [0, 0] none (spec := aFj b (aJk hv).1 (by omega) (by omega)) (hent := aOe) ?_
 apply aC
 refine cl [3, 6] ?_
 repeat apply aA
 apply aB
 refine v0 ?_
 refine oc0 [(0, 160), (1, 3000)] [] [0] none (spec := aA3 (txt (gK b)) hpne) (hent := aJl) ?_
 iterate 2 refine v0 ?_
 apply aC
 repeat apply aA
 refine aL ?_
 repeat (first | refine aH ?_ | refine aF ?_ | refine aD ?_)
 refine aM ?_
 refine fh2 [0] ?_
 rfl
theorem aC0 (b : Msr) (hv : b.valid = false) (hl : b.er.length ≤ 1048576) (hl2 : b.se.length ≤ 1048576) (es : List (P × P)) : Gh.bE E 49 [.p (jT b), .agg [.p (.fn (.func 95) [] []), .map 0, .p (.fn (.func 102) [] [])]] (aG [(0, .map es)]) A (fun y => y = .ok (.p (.tuple [.str [], .int .i64 1])) (aG [(0, .map es)]) A) := by
 refine spX 18 Tryz.func49 rfl ?_
 intro C hN hL
 simp only [Gh.num, List.map_cons, List.map_nil, Nat.reduceAdd]
 have hpne : txt (gK b) ≠ [] := yE
 unfold jT
 repeat apply aA
 apply aB
 refine n1 120 false (hc := vJ.h {}) ?_
 refine n1 130 false (hc := vJ.h {}) ?_
 iterate 2 refine v0 ?_
 apply aC
 refine cl [2, 3] ?_
 repeat apply aA
 apply aB
 iterate 3 refine v0 ?_
 refine oc0 [] [] [0] none (spec := aGb b (by omega) (by omega)) (hent := aJh) ?_
 refine rb 10 false (h := by (exact hv)) ?_
 refine v0 ?_
 apply aC
 repeat apply aA
 refine cT ?_
 repeat apply aA
 apply aB
 iterate 2 refine v0 ?_
 apply aC
 repeat apply aA
 refine aL ?_
 repeat (first | refine aH ?_ | refine aF ?_ | refine aD ?_)
 refine aM ?_
 refine fh2 [0] ?_
 rfl
end
section
open Go.Gh
theorem zE : ∀ (l r : List UInt8) (acc : Nat), Lib.decFrom acc (l ++ r) = (Lib.decFrom acc l).bind fun n => Lib.decFrom n r
 | [], _, _ => rfl
 | b :: l, r, acc => by
  simp only [List.cons_append, Lib.decFrom]
  cases Lib.digitVal b with
  | none => rfl
  | some d => exact zE l r _
theorem yF {d : Nat} (h : d < 10) : (UInt8.ofNat (48 + d)).toNat = 48 + d := by
 rw [UInt8.toNat_ofNat']; omega
theorem aEd {d : Nat} (h : d < 10) : Lib.digitVal (UInt8.ofNat (48 + d)) = some d := by
 unfold Lib.digitVal
 rw [yF h, if_pos (by omega)]
 congr 1
 omega
theorem aEe (u : Nat) : Lib.decFrom 0 (Lib.decDigits u) = some u := by
 induction u using Nat.strongRecOn with
 | _ u ih =>
  rw [Lib.decDigits]
  split
  ·rename_i h
   show (match Lib.digitVal (UInt8.ofNat (48 + u)) with | some d => Lib.decFrom (0 * 10 + d) [] | none => none) = some u
   rw [aEd h]
   simp [Lib.decFrom]
  ·rw [zE, ih (u / 10) (by omega)]
   simp only [Option.bind_some, Lib.decFrom, aEd (show u % 10 < 10 by omega)]
   congr 1
   omega
theorem aC1 (u : Nat) : ∀ b ∈ Lib.decDigits u, 48 ≤ b.toNat ∧ b.toNat ≤ 57 := by
 induction u using Nat.strongRecOn with
 | _ u ih =>
  rw [Lib.decDigits]
  split
  ·rename_i h
   intro b hb
   rw [List.mem_singleton] at hb
   subst hb
   rw [yF h]
   omega
  ·intro b hb
   rcases List.mem_append.1 hb with hb | hb
   ·exact ih (u / 10) (by omega) b hb
   ·rw [List.mem_singleton] at hb
    subst hb
    rw [yF (by omega)]
    omega
theorem aJm (u : Nat) : Lib.decDigits u ≠ [] := fun h => by
 have := Lib.decDigits_length u
 rw [h] at this
 have := Lib.nDigits_pos u
 simp at *
 omega
theorem aA6 (u : Nat) : Lib.decNat (Lib.decDigits u) = some u := by
 unfold Lib.decNat
 rw [if_neg (by simpa using aJm u), aEe]
theorem aHg (n : Int) : Lib.atoi (Lib.itoa n) = some n := by
 unfold Lib.itoa
 split
 ·simp only [Lib.atoi, BEq.rfl, if_true, aA6, Option.map_some]
  congr 1
  omega
 ·have hd := aC1 n.toNat
  have hn := aA6 n.toNat
  cases e : Lib.decDigits n.toNat with
  | nil => exact absurd e (aJm _)
  | cons b r =>
   rw [e] at hd hn
   have hb := hd b (List.mem_cons_self ..)
   have h1 : (b == 45) = false := by
    cases h : b == 45 with
    | false => rfl
    | true => rw [beq_iff_eq] at h; subst h; simp at hb
   have h2 : (b == 43) = false := by
    cases h : b == 43 with
    | false => rfl
    | true => rw [beq_iff_eq] at h; subst h; simp at hb
   simp only [Lib.atoi, h1, h2, Bool.false_eq_true, if_false, hn, Option.map_some]
   congr 1
   omega
theorem aGf : ∀ (k u : Nat), u < 10 ^ (k + 1) → Lib.nDigits u ≤ k + 1
 | 0, u, h => by rw [Lib.nDigits_small (by simpa using h)]; omega
 | k + 1, u, h => by
  by_cases h0 : u < 10
  ·rw [Lib.nDigits_small h0]; omega
  ·rw [Lib.nDigits_big h0]
   have := aGf k (u / 10) (by rw [Nat.pow_succ] at h; omega)
   omega
def okS (n : Int) : Prop := -1000000000 ≤ n ∧ n ≤ 1000000000
theorem rC {n : Int} (h : okS n) : (Lib.itoa n).length ≤ 11 := by
 have hd : ∀ u : Nat, u ≤ 1000000000 → Lib.nDigits u ≤ 10 := fun u hu => aGf 9 u (by omega)
 obtain ⟨h1, h2⟩ := h
 unfold Lib.itoa
 split
 ·rw [List.length_cons, Lib.decDigits_length]; have := hd n.natAbs (by omega); omega
 ·rw [Lib.decDigits_length]; have := hd n.toNat (by omega); omega
theorem yG {n : Int} (h : okS n) : jA (Lib.itoa n) = (n, true) := by
 have := rC h
 unfold jA
 rw [Lib.atoiAll_short _ (by omega), aHg]
 rfl
theorem aFk (n : Int) : ∀ b ∈ Lib.itoa n, b.toNat = 45 ∨ 48 ≤ b.toNat := by
 unfold Lib.itoa
 split
 ·intro b hb
  rcases List.mem_cons.1 hb with rfl | hb
  ·exact .inl rfl
  ·exact .inr (aC1 _ b hb).1
 ·intro b hb
  exact .inr (aC1 _ b hb).1
theorem wN {n : Int} {c : UInt8} (h : c.toNat < 45) : c ∉ Lib.itoa n := fun hc => by
 have := aFk n c hc
 omega
theorem aGg (c : UInt8) : ∀ (l r : List UInt8), c ∉ l → Lib.index (l ++ c :: r) [c] = l.length
 | [], r, _ => by simpa using tG c r
 | b :: l, r, h => by
  have hb : b ≠ c := fun e => h (by rw [e]; exact List.mem_cons_self ..)
  rw [List.cons_append, tH b c _ hb, aGg c l r fun e => h (List.mem_cons_of_mem _ e)]
  have e1 : (((l.length : Nat) : Int) == -1) = false := by simp
  rw [e1]
  simp
theorem aK7 (c : UInt8) (l r : List UInt8) (h : c ∉ l) : Lib.cut (l ++ c :: r) [c] = (l, r, true) := by
 unfold Lib.cut
 rw [aGg c l r h, if_pos (by omega)]
 simp
theorem iF {a b : Int} (ha : okS a) (hb : okS b) (xs : List Str) : dB (ptT (.sp a b) :: xs) = some (a, b) := by
 have hc : Lib.cut (ptT (.sp a b)) [44] = (Lib.itoa a, Lib.itoa b, true) := by
  rw [ptT, List.append_assoc]
  exact aK7 44 _ _ (wN (by decide))
 simp only [dB, hc, yG ha, yG hb, Bool.and_self, if_true]
theorem pO {a : Int} (ha : okS a) (xs : List Str) : mT (ptT (.n a) :: xs) = some a := by
 simp only [mT, ptT, yG ha, if_true]
theorem aA7 (c : UInt8) : ∀ (l r : List UInt8), dF c (l ++ c :: r) = dF c l ++ dF c r
 | [], r => by simp [dF]
 | b :: l, r => by
  have ih := aA7 c l r
  rw [List.cons_append, dF, dF, ih]
  split
  ·rfl
  ·have := xX c l
   cases e : dF c l with
   | nil => exact absurd e this
   | cons p ps => rfl
theorem vK (c : UInt8) : ∀ (l : List UInt8), c ∉ l → dF c l = [l]
 | [], _ => rfl
 | b :: l, h => by
  have hb : b ≠ c := fun e => h (by rw [e]; exact List.mem_cons_self ..)
  rw [dF, if_neg hb, vK c l fun e => h (List.mem_cons_of_mem _ e)]
theorem zF : ∀ (l r : List UInt8), (10 : UInt8) ∉ l → bQ (l ++ 10 :: r) = (l ++ [10]) :: bQ r
 | [], r, _ => by simp [bQ]
 | b :: l, r, h => by
  have hb : b ≠ 10 := fun e => h (by rw [e]; exact List.mem_cons_self ..)
  rw [List.cons_append, bQ, if_neg hb, zF l r fun e => h (List.mem_cons_of_mem _ e)]
  rfl
def cln (p : Pt) : Prop := (10 : UInt8) ∉ ptT p ∧ (32 : UInt8) ∉ ptT p
theorem aOi (n : Int) : cln (.n n) := ⟨wN (by decide), wN (by decide)⟩
theorem aNk (a b : Int) : cln (.sp a b) := by
 have h : ∀ c : UInt8, c.toNat < 44 → c ∉ ptT (.sp a b) := fun c hc hm => by
  simp only [ptT, List.mem_append, List.mem_singleton] at hm
  rcases hm with (hm | hm) | hm
  ·exact wN (by omega) hm
  ·subst hm; simp at hc
  ·exact wN (by omega) hm
 exact ⟨h 10 (by decide), h 32 (by decide)⟩
theorem aEf {ps : List Pt} (h : ∀ p ∈ ps, cln p) : ∀ k, k < ps.length → dF 32 (jn ps (k + 1)) = (ps.take (k + 1)).map ptT
 | 0, hk => by
  obtain ⟨p, hp⟩ := fQ hk
  have hc := h p (List.mem_of_getElem? hp)
  cases ps with
  | nil => simp at hk
  | cons q ps =>
   simp only [List.getElem?_cons_zero, Option.some.injEq] at hp
   subst hp
   simp only [jn, sep, Nat.lt_irrefl, if_false, List.nil_append, List.getElem?_cons_zero, List.take_succ_cons, List.take_zero, List.map_cons, List.map_nil]
   exact vK 32 _ hc.2
 | k + 1, hk => by
  obtain ⟨p, hp⟩ := fQ hk
  have hc := h p (List.mem_of_getElem? hp)
  have ih := aEf h k (by omega)
  have e : jn ps (k + 1 + 1) = jn ps (k + 1) ++ 32 :: ptT p := by
   rw [jn, hp, qD (by omega)]
   simp
  rw [e, aA7, ih, vK 32 _ hc.2, List.take_add_one (i := k + 1), hp]
  simp
theorem aLE {ps : List Pt} (h : ∀ p ∈ ps, cln p) : ∀ k, (10 : UInt8) ∉ jn ps k
 | 0 => by simp [jn]
 | k + 1 => by
  rw [jn]
  have h1 : (10 : UInt8) ∉ sep k := by unfold sep; split <;> simp
  have h2 := aLE h k
  cases e : ps[k]? with
  | none => simp [h1, h2]
  | some p => simp [h1, h2, (h p (List.mem_of_getElem? e)).1]
theorem aHh (l : Str) : Lib.trimSuffix (l ++ [10]) [10] = l := by
 unfold Lib.trimSuffix Lib.hasSuffix
 rw [if_pos (by rw [List.isSuffixOf_iff_suffix]; exact List.suffix_append ..)]
 simp
theorem aHi {ps : List Pt} (h : ∀ p ∈ ps, cln p) (h0 : 0 < ps.length) : gV (fL ps) = ps.map ptT := by
 unfold gV fL
 rw [aHh]
 obtain ⟨k, hk⟩ : ∃ k, ps.length = k + 1 := ⟨ps.length - 1, by omega⟩
 rw [hk, aEf h k (by omega), ← hk, List.take_length]
theorem qG (l : List Pt) (ls : List (List Pt)) : txt (l :: ls) = fL l ++ txt ls := by simp [txt]
theorem aCa : ∀ {ls : List (List Pt)}, (∀ l ∈ ls, ∀ p ∈ l, cln p) → bQ (txt ls) = ls.map fL
 | [], _ => rfl
 | l :: ls, h => by
  rw [qG, List.map_cons, ← aCa (ls := ls) fun x hx => h x (List.mem_cons_of_mem _ hx)]
  unfold fL
  rw [List.append_assoc]
  exact zF _ _ (aLE (h l (List.mem_cons_self ..)) _)
theorem aGh : ∀ {ls : List (List Pt)}, ls ≠ [] → Lib.hasSuffix (txt ls) [10] = true
 | [], h => absurd rfl h
 | [l], _ => by
  unfold Lib.hasSuffix
  rw [aK1, fL, List.isSuffixOf_iff_suffix]
  exact List.suffix_append ..
 | l :: m :: ls, _ => by
  have := aGh (ls := m :: ls) (by simp)
  unfold Lib.hasSuffix at this ⊢
  rw [qG, List.isSuffixOf_iff_suffix]
  rw [List.isSuffixOf_iff_suffix] at this
  exact this.trans (List.suffix_append ..)
theorem aHj {p : Pt} (h : match p with | .w s => s.length ≤ 8 | .n k => okS k | .sp a b => okS a ∧ okS b) : (ptT p).length ≤ 23 := by
 cases p with
 | w s => simp only [ptT]; simp only at h; omega
 | n k => have := rC h; simp only [ptT]; omega
 | sp a b => have := rC h.1; have := rC h.2; simp only [ptT, List.length_append, List.length_cons, List.length_nil]; omega
theorem aC2 (ln : Str) : ∃ w r, gV ln = w :: r := by
 have := xX 32 (Lib.trimSuffix ln [10])
 unfold gV
 cases e : dF 32 (Lib.trimSuffix ln [10]) with
 | nil => exact absurd e this
 | cons w r => exact ⟨w, r, rfl⟩
theorem aCb (c : UInt8) : ∀ (l : List UInt8), ∀ x ∈ dF c l, x.length ≤ l.length
 | [], x, h => by simp [dF] at h; subst h; simp
 | b :: l, x, h => by
  have ih := aCb c l
  rw [dF] at h
  split at h
  ·rcases List.mem_cons.1 h with rfl | h
   ·simp
   ·have := ih x h; rw [List.length_cons]; omega
  ·cases e : dF c l with
   | nil => exact absurd e (xX c l)
   | cons p ps =>
    rw [e] at h ih
    rcases List.mem_cons.1 h with rfl | h
    ·have := ih p (List.mem_cons_self ..); simp only [List.length_cons]; omega
    ·have := ih x (List.mem_cons_of_mem _ h); rw [List.length_cons]; omega
theorem vL {ln : Str} (h : ln.length ≤ 10000) : cE (gV ln) := fun x hx => by
 have := aCb 32 _ x hx
 have := aA2 ln [10]
 omega
end
section
open Go.Gh
def uR (xs : List Str) : Option mV := match dB xs with
 | none => none
 | some x => match dB xs.tail with
  | none => none
  | some y => match xs.tail.tail with
   | [] => some ⟨x, y, false, (0, 0), (0, 0)⟩
   | k :: r => match dB r with
    | none => none
    | some e => match dB r.tail with
     | none => none
     | some n => some ⟨x, y, decide (k = [107, 110, 111, 119, 110]), e, n⟩
def gX (p : Plt) : List Str → Option Plt
 | [] => none
 | w :: r => if w = [112, 108, 97, 116, 101] then (dB r).map fun s => { p with sc := s } else if w = [115, 116, 97, 114] then (uR r).map fun s => { p with st := p.st ++ [s] } else none
def dI : List Str → Option (List Int)
 | [] => some []
 | x :: xs => match mT (x :: xs) with
  | none => none
  | some n => (dI xs).map fun l => n :: l
def eK (c : Chn) : List Str → Option Chn
 | [] => none
 | w :: r => if w = [99, 104, 97, 105, 110] then (match dI r with | some [a, b, d] => some { c with pl := a, ps := b, ms := d } | _ => none)
  else if w = [107, 110, 111, 119, 115] then (match dI r with | some [a, b] => some { c with kn := c.kn ++ [(a, b)] } | _ => none)
  else if w = [108, 111, 97, 110] then (match dI r with | some [a, b, d] => some { c with rs := c.rs ++ [(a, b, d)] } | _ => none) else none
def wO (r : List Str) : Option (Int × (Int × Int) × (Int × Int)) := match mT r with
 | none => none
 | some n => match dB r.tail with
  | none => none
  | some s => match dB r.tail.tail with
   | none => none
   | some e => some (n, s, e)
def wQ (r : List Str) (rv : Bool) : Option Stg := match mT r with
 | none => none
 | some n => match mT r.tail with
  | none => none
  | some k => some ⟨n, k, rv⟩
def dO (m : Msr) : List Str → Option Msr
 | [] => none
 | w :: r => if w = [109, 101, 97, 115, 117, 114, 101] then (wO r).map fun h => { m with im := h.1, su := h.2.1, ey := h.2.2 }
  else if w = [116, 117, 114, 110] then (dB r).map fun e => { m with er := m.er ++ [e] }
  else if w = [112, 108, 97, 105, 110] then (wQ r false).map fun s => { m with se := m.se ++ [s] }
  else if w = [114, 101, 118, 101, 114, 115, 101, 100] then (wQ r true).map fun s => { m with se := m.se ++ [s] } else none
def run {α : Type} (step : α → List Str → Option α) : List Str → α → Option α
 | [], x => some x
 | l :: ls, x => match step x (gV l) with
  | none => none
  | some y => run step ls y
theorem iG {α : Type} {step : α → List Str → Option α} : ∀ {ls : List Str} {k : Nat} {x z : α} {l : Str}, run step (ls.take k) x = some z → ls[k]? = some l → run step (ls.take (k + 1)) x = step z (gV l)
 | [], _, _, _, _, _, h => by simp at h
 | l :: ls, 0, x, z, m, h, h2 => by
  simp only [List.take_zero, run, Option.some.injEq] at h
  simp only [List.getElem?_cons_zero, Option.some.injEq] at h2
  subst h h2
  simp only [List.take_succ_cons, List.take_zero, run]
  cases step x (gV l) <;> rfl
 | l :: ls, k + 1, x, z, m, h, h2 => by
  simp only [List.take_succ_cons, run] at h ⊢
  cases e : step x (gV l) with
  | none => rw [e] at h; cases h
  | some y =>
   rw [e] at h
   simp only at h ⊢
   exact iG h (by simpa using h2)
theorem fT {α : Type} {step : α → List Str → Option α} : ∀ {ls : List Str} {k : Nat} {x z : α} {l : Str}, run step (ls.take k) x = some z → ls[k]? = some l → step z (gV l) = none → run step ls x = none
 | [], _, _, _, _, _, h, _ => by simp at h
 | l :: ls, 0, x, z, m, h, h2, h3 => by
  simp only [List.take_zero, run, Option.some.injEq] at h
  simp only [List.getElem?_cons_zero, Option.some.injEq] at h2
  subst h h2
  rw [run, h3]
 | l :: ls, k + 1, x, z, m, h, h2, h3 => by
  simp only [List.take_succ_cons, run] at h ⊢
  cases e : step x (gV l) with
  | none => rfl
  | some y =>
   rw [e] at h
   simp only at h ⊢
   exact fT h (by simpa using h2) h3
theorem aC3 {α : Type} {step : α → List Str → Option α} : ∀ {ls rs : List Str} {x y : α}, run step ls x = some y → run step (ls ++ rs) x = run step rs y
 | [], _, _, _, h => by cases h; rfl
 | l :: ls, rs, x, y, h => by
  simp only [List.cons_append, run] at h ⊢
  cases e : step x (gV l) with
  | none => rw [e] at h; cases h
  | some z => rw [e] at h; exact aC3 h
def dW {α : Type} (step : α → List Str → Option α) (z : α) (s : Str) : Option α := if Lib.hasSuffix s [10] then run step (bQ s) z else none
def Plt.z : Plt := ⟨(0, 0), []⟩
def Chn.z : Chn := ⟨0, 0, [], [], 0⟩
def Msr.z : Msr := ⟨0, (0, 0), (0, 0), [], []⟩
def wR (s : Str) : Option Plt := match dW gX Plt.z s with
 | none => none
 | some p => if p.valid && decide (txt (iA p) = s) then some p else none
def wS (s : Str) : Option Chn := match dW eK Chn.z s with
 | none => none
 | some p => if p.valid && decide (txt (gW p) = s) then some p else none
def sQ (s : Str) : Option Msr := match dW dO Msr.z s with
 | none => none
 | some p => if p.valid && decide (txt (gK p) = s) then some p else none
theorem kH {lo hi : Int} {s : Int × Int} (h : spB lo hi s = true) (h1 : -1000000000 ≤ lo) (h2 : hi ≤ 1000000000) : okS s.1 ∧ okS s.2 := by
 simp only [spB, Bool.and_eq_true, decide_eq_true_eq] at h
 simp only [okS]; omega
theorem rD {lo hi n : Int} (h : inB lo hi n = true) (h1 : -1000000000 ≤ lo) (h2 : hi ≤ 1000000000) : okS n := by
 simp only [inB, Bool.and_eq_true, decide_eq_true_eq] at h
 simp only [okS]; omega
def aJn : Pt → Prop
 | .w s => s.length ≤ 8
 | .n k => okS k
 | .sp a b => okS a ∧ okS b
def okP (ps : List Pt) : Prop := (∀ p ∈ ps, cln p ∧ aJn p) ∧ 0 < ps.length
theorem okP.part {ps : List Pt} (h : okP ps) : gV (fL ps) = ps.map ptT := aHi (fun p hp => (h.1 p hp).1) h.2
theorem aGi {ps : List Pt} (h : ∀ p ∈ ps, aJn p) : ∀ k, (jn ps k).length ≤ 24 * k
 | 0 => by simp [jn]
 | k + 1 => by
  have := aGi h k
  have := gJ k
  simp only [jn, List.length_append]
  cases e : ps[k]? with
  | none => simp only [List.length_nil]; omega
  | some p =>
   have : (ptT p).length ≤ 23 := aHj (by have := h p (List.mem_of_getElem? e); cases p <;> exact this)
   simp only; omega
theorem okP.len {ps : List Pt} (h : okP ps) : (fL ps).length ≤ 24 * ps.length + 1 := by
 have := aGi (fun p hp => (h.1 p hp).2) ps.length
 simp only [fL, List.length_append, List.length_cons, List.length_nil]; omega
theorem qH {α : Type} {f : α → List Pt} {n : Nat} : ∀ {l : List α}, (∀ x ∈ l, okP (f x) ∧ (f x).length ≤ n) → (txt (l.map f)).length ≤ (24 * n + 1) * l.length
 | [], _ => by simp [txt]
 | x :: l, h => by
  have h1 := (h x (List.mem_cons_self ..)).1.len
  have h3 := (h x (List.mem_cons_self ..)).2
  have h2 := qH (l := l) fun y hy => h y (List.mem_cons_of_mem _ hy)
  rw [List.map_cons, qG, List.length_append, List.length_cons, Nat.mul_succ]
  omega
theorem rE {ps : List Pt} (h : ps.all (fun p => match p with | .w s => decide ((10 : UInt8) ∉ s ∧ (32 : UInt8) ∉ s ∧ s.length ≤ 8) | .n _ => true | .sp _ _ => true) = true) (h2 : ∀ p ∈ ps, match p with | .w _ => True | .n k => okS k | .sp a b => okS a ∧ okS b) (h3 : 0 < ps.length) : okP ps := by
 refine ⟨fun p hp => ?_, h3⟩
 have h4 := List.all_eq_true.1 h p hp
 have h5 := h2 p hp
 cases p with
 | w s => simp only [decide_eq_true_eq] at h4; exact ⟨⟨h4.1, h4.2.1⟩, h4.2.2⟩
 | n k => exact ⟨aOi k, h5⟩
 | sp a b => exact ⟨aNk a b, h5⟩
theorem tM {α : Type} {step : α → List Str → Option α} {z x : α} {ls : List (List Pt)} (h : ∀ l ∈ ls, okP l) (h0 : ls ≠ []) (h2 : run step (ls.map fL) z = some x) : dW step z (txt ls) = some x := by
 unfold dW
 rw [if_pos (aGh h0), aCa fun l hl p hp => ((h l hl).1 p hp).1, h2]
theorem aA8 {s : mV} (h : fC s = false) : okP (oJ s) ∧ (oJ s).length ≤ 6 := by
 simp only [fC, Bool.or_eq_false_iff, Bool.not_eq_false'] at h
 obtain ⟨⟨h1, h2⟩, h3⟩ := h
 have hx := kH h1 (by omega) (by omega)
 have hy := kH h2 (by omega) (by omega)
 simp only [jO, Bool.or_eq_true, Bool.and_eq_true] at h3
 unfold oJ
 split
 ·rename_i hk
  rcases h3 with ⟨⟨_, h4⟩, h5⟩ | ⟨⟨h4, _⟩, _⟩
  ·refine ⟨rE (by simp) ?_ (by simp), by simp⟩
   simp only [List.mem_cons, List.not_mem_nil, or_false]
   rintro p (rfl | rfl | rfl | rfl | rfl | rfl)
   ·trivial
   ·exact hx
   ·exact hy
   ·trivial
   ·exact kH h4 (by omega) (by omega)
   ·exact kH h5 (by omega) (by omega)
  ·rw [hk] at h4; cases h4
 ·refine ⟨rE (by simp) ?_ (by simp), by simp⟩
  simp only [List.mem_cons, List.not_mem_nil, or_false]
  rintro p (rfl | rfl | rfl)
  ·trivial
  ·exact hx
  ·exact hy
theorem aHk {s : mV} (h : fC s = false) (p : Plt) : gX p (gV (fL (oJ s))) = some { p with st := p.st ++ [s] } := by
 rw [(aA8 h).1.part]
 simp only [fC, Bool.or_eq_false_iff, Bool.not_eq_false'] at h
 obtain ⟨⟨h1, h2⟩, h3⟩ := h
 have hx := kH h1 (by omega) (by omega)
 have hy := kH h2 (by omega) (by omega)
 simp only [jO, Bool.or_eq_true, Bool.and_eq_true] at h3
 obtain ⟨x, y, kn, e, n⟩ := s
 replace hx : okS x.1 ∧ okS x.2 := hx
 replace hy : okS y.1 ∧ okS y.2 := hy
 unfold oJ
 cases kn with
 | true =>
  rcases h3 with ⟨⟨_, h4⟩, h5⟩ | ⟨⟨h4, _⟩, _⟩
  ·have he := kH h4 (by omega) (by omega)
   have hn := kH h5 (by omega) (by omega)
   simp only [if_true, List.map_cons, List.map_nil, gX]
   rw [if_neg (by simp [ptT]), if_pos (by simp [ptT])]
   simp only [uR, iF hx.1 hx.2, iF hy.1 hy.2, iF he.1 he.2, iF hn.1 hn.2, List.tail_cons, Option.map_some]
   simp [ptT]
  ·cases h4
 | false =>
  rcases h3 with ⟨⟨h4, _⟩, _⟩ | ⟨⟨_, h4⟩, h5⟩
  ·cases h4
  ·simp only [jY, Bool.and_eq_true, decide_eq_true_eq] at h4 h5
   obtain ⟨e1, e2⟩ := e
   obtain ⟨n1, n2⟩ := n
   simp only at h4 h5
   obtain ⟨rfl, rfl⟩ := h4
   obtain ⟨rfl, rfl⟩ := h5
   simp only [Bool.false_eq_true, if_false, List.map_cons, List.map_nil, gX]
   rw [if_neg (by simp [ptT]), if_pos (by simp [ptT])]
   simp only [uR, iF hx.1 hx.2, iF hy.1 hy.2, List.tail_cons, Option.map_some]
theorem aCc : ∀ {l : List mV}, l.any fC = false → ∀ p : Plt, run gX ((l.map oJ).map fL) p = some { p with st := p.st ++ l }
 | [], _, p => by simp [run]
 | s :: l, h, p => by
  rw [List.any_cons, Bool.or_eq_false_iff] at h
  simp only [List.map_cons, run, aHk h.1]
  rw [aCc h.2]
  simp
theorem aC4 {p : Plt} (h : p.valid = true) : (∀ l ∈ iA p, okP l) ∧ (txt (iA p)).length ≤ 4096 := by
 simp only [Plt.valid, Bool.and_eq_true, decide_eq_true_eq, Bool.not_eq_true'] at h
 obtain ⟨⟨h1, h2⟩, h3⟩ := h
 have hs : ∀ s ∈ p.st, fC s = false := fun s hs => jP (by rw [h3]; rfl) hs
 have h0 : okP (zU p) := by
  refine rE (by simp [zU]) ?_ (by simp [zU])
  simp only [zU, List.mem_cons, List.not_mem_nil, or_false]
  rintro q (rfl | rfl)
  ·trivial
  ·exact kH h1 (by omega) (by omega)
 constructor
 ·intro l hl
  rcases List.mem_cons.1 hl with rfl | hl
  ·exact h0
  ·obtain ⟨s, hm, rfl⟩ := List.mem_map.1 hl
   exact (aA8 (hs s hm)).1
 ·unfold iA
  rw [qG, List.length_append]
  have h4 := h0.len
  have h5 := qH (f := oJ) (n := 6) (l := p.st) fun s hm => aA8 (hs s hm)
  have h6 : (zU p).length = 2 := rfl
  have : (24 * 6 + 1) * p.st.length ≤ (24 * 6 + 1) * 10 := Nat.mul_le_mul_left _ (by omega)
  omega
theorem aHl {p : Plt} (h : p.valid = true) : wR (txt (iA p)) = some p := by
 have hv := h
 simp only [Plt.valid, Bool.and_eq_true, decide_eq_true_eq, Bool.not_eq_true'] at h
 obtain ⟨⟨h1, h2⟩, h3⟩ := h
 have hx := kH h1 (by omega) (by omega)
 have hr : dW gX Plt.z (txt (iA p)) = some p := by
  refine tM (aC4 hv).1 (by simp [iA]) ?_
  have h0 := (aC4 hv).1 (zU p) (List.mem_cons_self ..)
  simp only [iA, List.map_cons, run]
  rw [h0.part]
  simp only [zU, List.map_cons, List.map_nil, gX]
  rw [if_pos (by simp [ptT]), iF hx.1 hx.2]
  simp only [Option.map_some]
  rw [aCc h3]
  simp [Plt.z]
 unfold wR
 rw [hr]
 simp [hv]
theorem aLF {a b c : Int} (ha : okS a) (hb : okS b) (hc : okS c) : dI [ptT (.n a), ptT (.n b), ptT (.n c)] = some [a, b, c] := by
 simp only [dI, pO ha, pO hb, pO hc, Option.map_some]
theorem aOj {a b : Int} (ha : okS a) (hb : okS b) : dI [ptT (.n a), ptT (.n b)] = some [a, b] := by
 simp only [dI, pO ha, pO hb, Option.map_some]
theorem okK {ps : Int} {k : Int × Int} (h : oM ps k = false) (hp : ps ≤ 8) : okS k.1 ∧ okS k.2 := by
 simp only [oM, Bool.not_eq_false', Bool.and_eq_true] at h
 exact ⟨rD h.1.2 (by omega) (by omega), rD h.2 (by omega) (by omega)⟩
theorem okR {pl ps : Int} {r : Int × Int × Int} (h : qX pl ps r = false) (hl : pl ≤ 4) (hp : ps ≤ 8) : okS r.1 ∧ okS r.2.1 ∧ okS r.2.2 := by
 simp only [qX, Bool.or_eq_false_iff, Bool.not_eq_false'] at h
 exact ⟨rD h.2 (by omega) (by omega), okK h.1 hp⟩
theorem aFl {k : Int × Int} (h : okS k.1 ∧ okS k.2) : okP (knL k) ∧ (knL k).length ≤ 3 := by
 refine ⟨rE (by simp [knL]) ?_ (by simp [knL]), by simp [knL]⟩
 simp only [knL, List.mem_cons, List.not_mem_nil, or_false]
 rintro q (rfl | rfl | rfl)
 ·trivial
 ·exact h.1
 ·exact h.2
theorem aFm {k : Int × Int × Int} (h : okS k.1 ∧ okS k.2.1 ∧ okS k.2.2) : okP (rcL k) ∧ (rcL k).length ≤ 4 := by
 refine ⟨rE (by simp [rcL]) ?_ (by simp [rcL]), by simp [rcL]⟩
 simp only [rcL, List.mem_cons, List.not_mem_nil, or_false]
 rintro q (rfl | rfl | rfl | rfl)
 ·trivial
 ·exact h.1
 ·exact h.2.1
 ·exact h.2.2
theorem aJo : ∀ {l : List (Int × Int)}, (∀ k ∈ l, okS k.1 ∧ okS k.2) → ∀ c : Chn, run eK ((l.map knL).map fL) c = some { c with kn := c.kn ++ l }
 | [], _, c => by simp [run]
 | k :: l, h, c => by
  have h1 := h k (List.mem_cons_self ..)
  simp only [List.map_cons, run, (aFl h1).1.part]
  simp only [knL, List.map_cons, List.map_nil, eK, aOj h1.1 h1.2]
  rw [if_neg (by simp [ptT]), if_pos (by simp [ptT])]
  simp only
  rw [aJo fun x hx => h x (List.mem_cons_of_mem _ hx)]
  simp
theorem aJp : ∀ {l : List (Int × Int × Int)}, (∀ k ∈ l, okS k.1 ∧ okS k.2.1 ∧ okS k.2.2) → ∀ c : Chn, run eK ((l.map rcL).map fL) c = some { c with rs := c.rs ++ l }
 | [], _, c => by simp [run]
 | k :: l, h, c => by
  have h1 := h k (List.mem_cons_self ..)
  simp only [List.map_cons, run, (aFm h1).1.part]
  simp only [rcL, List.map_cons, List.map_nil, eK, aLF h1.1 h1.2.1 h1.2.2]
  rw [if_neg (by simp [ptT]), if_neg (by simp [ptT]), if_pos (by simp [ptT])]
  simp only
  rw [aJp fun x hx => h x (List.mem_cons_of_mem _ hx)]
  simp
structure aOk (c : Chn) : Prop where
 pl : okS c.pl
 ps : okS c.ps
 ms : okS c.ms
 kn : ∀ k ∈ c.kn, okS k.1 ∧ okS k.2
 rs : ∀ k ∈ c.rs, okS k.1 ∧ okS k.2.1 ∧ okS k.2.2
 nk : c.kn.length ≤ 28
 nr : c.rs.length ≤ 12
theorem aLG {c : Chn} (h : c.valid = true) : aOk c := by
 simp only [Chn.valid, Bool.and_eq_true, decide_eq_true_eq] at h
 obtain ⟨⟨⟨⟨⟨⟨h1, h2⟩, h3⟩, h4⟩, h5⟩, h6⟩, h7⟩ := h
 have hps : c.ps ≤ 8 := by simp only [inB, Bool.and_eq_true, decide_eq_true_eq] at h2; omega
 have hpl : c.pl ≤ 4 := by simp only [inB, Bool.and_eq_true, decide_eq_true_eq] at h1; omega
 exact ⟨rD h1 (by omega) (by omega), rD h2 (by omega) (by omega), rD h3 (by omega) (by omega), fun k hk => okK (jP h6 hk) hps, fun k hk => okR (jP h7 hk) hpl hps, by omega, by omega⟩
theorem aC5 {c : Chn} (h : c.valid = true) : (∀ l ∈ gW c, okP l) ∧ (txt (gW c)).length ≤ 4096 := by
 have H := aLG h
 have h0 : okP (zV c) := by
  refine rE (by simp [zV]) ?_ (by simp [zV])
  simp only [zV, List.mem_cons, List.not_mem_nil, or_false]
  rintro q (rfl | rfl | rfl | rfl)
  ·trivial
  ·exact H.pl
  ·exact H.ps
  ·exact H.ms
 constructor
 ·intro l hl
  rcases List.mem_cons.1 hl with rfl | hl
  ·exact h0
  ·rcases List.mem_append.1 hl with hl | hl
   ·obtain ⟨s, hm, rfl⟩ := List.mem_map.1 hl
    exact (aFl (H.kn s hm)).1
   ·obtain ⟨s, hm, rfl⟩ := List.mem_map.1 hl
    exact (aFm (H.rs s hm)).1
 ·unfold gW
  have ht : ∀ a b : List (List Pt), txt (a ++ b) = txt a ++ txt b := fun a b => by simp [txt]
  rw [qG, ht, List.length_append, List.length_append]
  have h4 := h0.len
  have h5 := qH (f := knL) (n := 3) (l := c.kn) fun s hm => aFl (H.kn s hm)
  have h7 := qH (f := rcL) (n := 4) (l := c.rs) fun s hm => aFm (H.rs s hm)
  have h6 : (zV c).length = 4 := rfl
  have := H.nk
  have := H.nr
  omega
theorem aHm {c : Chn} (h : c.valid = true) : wS (txt (gW c)) = some c := by
 have H := aLG h
 have hr : dW eK Chn.z (txt (gW c)) = some c := by
  refine tM (aC5 h).1 (by simp [gW]) ?_
  have h0 := (aC5 h).1 (zV c) (List.mem_cons_self ..)
  simp only [gW, List.map_cons, List.map_append, run]
  rw [h0.part]
  simp only [zV, List.map_cons, List.map_nil, eK]
  rw [if_pos (by simp [ptT]), aLF H.pl H.ps H.ms]
  simp only
  rw [aC3 (aJo H.kn _), aJp H.rs]
  simp [Chn.z]
 unfold wS
 rw [hr]
 simp [h]
structure aOl (m : Msr) : Prop where
 im : okS m.im
 su : okS m.su.1 ∧ okS m.su.2
 ey : okS m.ey.1 ∧ okS m.ey.2
 er : ∀ e ∈ m.er, okS e.1 ∧ okS e.2
 se : ∀ s ∈ m.se, okS s.im ∧ okS s.rd
 ne : m.er.length ≤ 40
 ns : m.se.length ≤ 12
theorem aLH {m : Msr} (h : m.valid = true) : aOl m := by
 simp only [Msr.valid, Bool.and_eq_true, decide_eq_true_eq] at h
 obtain ⟨⟨⟨⟨⟨⟨h1, h2⟩, h3⟩, h4⟩, h5⟩, h6⟩, h7⟩ := h
 have hn : m.er.length ≤ 40 := by simp only [inB, Bool.and_eq_true, decide_eq_true_eq] at h1; omega
 have him : m.im ≤ 6 := by simp only [inB, Bool.and_eq_true, decide_eq_true_eq] at h4; omega
 refine ⟨rD h4 (by omega) (by omega), kH h5 (by omega) (by omega), kH h2 (by omega) (by omega), fun e he => ?_, fun s hs => ?_, hn, by omega⟩
 ·have h8 := jP h3 he
  simp only [eZ, Bool.not_eq_false'] at h8
  exact kH h8 (by omega) (by omega)
 ·have h8 := jP h7 hs
  simp only [sS, Bool.or_eq_false_iff, Bool.not_eq_false'] at h8
  exact ⟨rD h8.1 (by omega) (by omega), rD h8.2 (by omega) (by omega)⟩
theorem aFn {e : Int × Int} (h : okS e.1 ∧ okS e.2) : okP (erL e) ∧ (erL e).length ≤ 2 := by
 refine ⟨rE (by simp [erL]) ?_ (by simp [erL]), by simp [erL]⟩
 simp only [erL, List.mem_cons, List.not_mem_nil, or_false]
 rintro q (rfl | rfl)
 ·trivial
 ·exact h
theorem aFo {s : Stg} (h : okS s.im ∧ okS s.rd) : okP (seL s) ∧ (seL s).length ≤ 3 := by
 refine ⟨rE (by cases e : s.rv <;> simp [seL, aK2, e]) ?_ (by simp [seL]), by simp [seL]⟩
 simp only [seL, List.mem_cons, List.not_mem_nil, or_false]
 rintro q (rfl | rfl | rfl)
 ·trivial
 ·exact h.1
 ·exact h.2
theorem aJq : ∀ {l : List (Int × Int)}, (∀ k ∈ l, okS k.1 ∧ okS k.2) → ∀ m : Msr, run dO ((l.map erL).map fL) m = some { m with er := m.er ++ l }
 | [], _, c => by simp [run]
 | k :: l, h, c => by
  have h1 := h k (List.mem_cons_self ..)
  simp only [List.map_cons, run, (aFn h1).1.part]
  simp only [erL, List.map_cons, List.map_nil, dO, iF h1.1 h1.2]
  rw [if_neg (by simp [ptT]), if_pos (by simp [ptT])]
  simp only [Option.map_some]
  rw [aJq fun x hx => h x (List.mem_cons_of_mem _ hx)]
  simp
theorem aFp : ∀ {l : List Stg}, (∀ k ∈ l, okS k.im ∧ okS k.rd) → ∀ m : Msr, run dO ((l.map seL).map fL) m = some { m with se := m.se ++ l }
 | [], _, c => by simp [run]
 | k :: l, h, c => by
  have h1 := h k (List.mem_cons_self ..)
  simp only [List.map_cons, run, (aFo h1).1.part]
  obtain ⟨im, rd, rv⟩ := k
  cases rv
  all_goals
   simp only [seL, aK2, Bool.false_eq_true, if_false, if_true, List.map_cons, List.map_nil, dO]
  ·rw [if_neg (by simp [ptT]), if_neg (by simp [ptT]), if_pos (by simp [ptT])]
   simp only [wQ, pO h1.1, pO h1.2, List.tail_cons, Option.map_some]
   rw [aFp fun x hx => h x (List.mem_cons_of_mem _ hx)]
   simp
  ·rw [if_neg (by simp [ptT]), if_neg (by simp [ptT]), if_neg (by simp [ptT]), if_pos (by simp [ptT])]
   simp only [wQ, pO h1.1, pO h1.2, List.tail_cons, Option.map_some]
   rw [aFp fun x hx => h x (List.mem_cons_of_mem _ hx)]
   simp
theorem aC6 {m : Msr} (h : m.valid = true) : (∀ l ∈ gK m, okP l) ∧ (txt (gK m)).length ≤ 4096 := by
 have H := aLH h
 have h0 : okP (zW m) := by
  refine rE (by simp [zW]) ?_ (by simp [zW])
  simp only [zW, List.mem_cons, List.not_mem_nil, or_false]
  rintro q (rfl | rfl | rfl | rfl)
  ·trivial
  ·exact H.im
  ·exact H.su
  ·exact H.ey
 constructor
 ·intro l hl
  rcases List.mem_cons.1 hl with rfl | hl
  ·exact h0
  ·rcases List.mem_append.1 hl with hl | hl
   ·obtain ⟨s, hm, rfl⟩ := List.mem_map.1 hl
    exact (aFn (H.er s hm)).1
   ·obtain ⟨s, hm, rfl⟩ := List.mem_map.1 hl
    exact (aFo (H.se s hm)).1
 ·unfold gK
  have ht : ∀ a b : List (List Pt), txt (a ++ b) = txt a ++ txt b := fun a b => by simp [txt]
  rw [qG, ht, List.length_append, List.length_append]
  have h4 := h0.len
  have h5 := qH (f := erL) (n := 2) (l := m.er) fun s hm => aFn (H.er s hm)
  have h7 := qH (f := seL) (n := 3) (l := m.se) fun s hm => aFo (H.se s hm)
  have h6 : (zW m).length = 4 := rfl
  have := H.ne
  have := H.ns
  omega
theorem aHn {m : Msr} (h : m.valid = true) : sQ (txt (gK m)) = some m := by
 have H := aLH h
 have hr : dW dO Msr.z (txt (gK m)) = some m := by
  refine tM (aC6 h).1 (by simp [gK]) ?_
  have h0 := (aC6 h).1 (zW m) (List.mem_cons_self ..)
  simp only [gK, List.map_cons, List.map_append, run]
  rw [h0.part]
  simp only [zW, List.map_cons, List.map_nil, dO]
  rw [if_pos (by simp [ptT])]
  simp only [wO, pO H.im, iF H.su.1 H.su.2, iF H.ey.1 H.ey.2, List.tail_cons, Option.map_some]
  rw [aC3 (aJq H.er _), aFp H.se]
  simp [Msr.z]
 unfold sQ
 rw [hr]
 simp [h]
end
section
open Go.Gh
variable {E : Env Tryz.prog} {A : E.α}
structure aHo (c : Prop) : Prop where
 h : c := by (first | exact True.intro | omega | (simp only [inI]; omega) | (have := dQ; simp [P.size, bU] <;> first | omega | exact this _ | exact ⟨this _, by omega⟩ | grind))
def lA (n : Int) : UInt8 := UInt8.ofNat (n % 256).toNat
def fE (ns : List Int) : List UInt8 := ns.map lA
def aOm (ns : List Int) : P := .list (ns.map (P.int .i64))
theorem aFq (n : Int) : IntKind.u8.wrap n = ((lA n).toNat : Int) := by
 have h1 : (lA n).toNat = (n % 256).toNat := by
  unfold lA
  simp only [UInt8.toNat_ofNat']
  omega
 rw [h1, IntKind.wrap_u8]
 omega
theorem aFr {ns : List Int} {k : Nat} {x : Int} (l : List UInt8) (h : ns[k]? = some x) : l ++ fE (ns.take k) ++ [lA x] = l ++ fE (ns.take (k + 1)) := by
 have : ns.take (k + 1) = ns.take k ++ [x] := by rw [List.take_add_one, h]; rfl
 rw [this]; simp [fE]
theorem oN (ns : List Int) : (fE ns).length = ns.length := by simp [fE]
theorem aJr (l : List UInt8) (b : UInt8) : (l ++ [b]).length = l.length + 1 := by simp
theorem aJs (l : List UInt8) (n : Int) : u8s l ++ [P.int .u8 (IntKind.u8.wrap n)] = u8s (l ++ [lA n]) := by rw [aFq]; simp [u8s]
theorem aA9 : aJ Tryz.prog 68 := aJ.mk Tryz.func68 (by kernel_rfl) rfl
theorem rF (l : List UInt8) (ns : List Int) (h : l.length ≤ 900000) (hn : ns.length ≤ 10) : Gh.bE E 68 [.ref 0 0, .p (aOm ns)] (aG [(0, .cells [.own 1 (l).length] 0), (1, .arr 5 1 (u8s (l)) false)]) A (fun y => y = .ok (.p (.tuple [])) (aG [(0, .cells [.own 1 (l ++ fE ns).length] 0), (1, .arr 5 1 (u8s (l ++ fE ns)) false)]) A) := by
 refine spX 24 Tryz.func68 rfl ?_
 intro C hN hL
 simp only [Gh.num, List.map_cons, List.map_nil, Nat.reduceAdd]
 unfold aOm
 repeat apply aA
 apply aB
 iterate 3 refine v0 ?_
 apply aC
 refine cl [0, 6, 7, 8] ?_
 repeat apply aA
 refine aP ?_
 repeat apply aA
 refine cI (fun mz σ => ∃ k : Nat, (k ≤ ns.length) ∧ mz = ns.length - k ∧ σ = (sg [(0, .ref 0 0), (6, .p (.list (ns.map (P.int .i64)))), (7, .p (.int .i64 (ns.length : Nat))), (8, .p (.int .i64 (k : Nat)))] [(0, .cells [.own 1 (l ++ fE (ns.take k)).length] 0), (1, .arr 5 1 (u8s (l ++ fE (ns.take k))) false)] A [] : Sg E)) ?_ (fun mz σ hI => ?_)
 ·refine gA [0, 6, 7, 8] ?_
  exact ⟨_, 0, by omega, rfl, sgE (by simp) (by simp [fE])⟩
 obtain ⟨k, hk, hnn, rfl⟩ := hI
 repeat apply aA
 apply aB
 refine v0 ?_
 apply aC
 repeat apply aA
 refine cB (k1 := fun hb1 => ?_) (k0 := fun hb1 => ?_)
 ·replace hb1 := hB.h {} hb1
  repeat apply aA
  refine aR ?_
  refine cl [0, 6, 7, 8] ?_
  repeat apply aA
  refine aP ?_
  repeat apply aA
  obtain ⟨x, hx⟩ := fQ (l := ns) (k := k) (by omega)
  have hbl : (l ++ fE (ns.take k)).length ≤ 901000 := by rw [List.length_append, oN, List.length_take]; omega
  apply aB
  refine v1 (hc := aHo.h {}) ?_
  iterate 2 refine v0 ?_
  apply aC
  refine cl [0, 5, 6, 7, 8] ?_
  repeat apply aA
  apply aB
  iterate 6 refine v0 ?_
  refine v1 (hc := aHo.h {}) ?_
  refine n1 290 false (hc := aHo.h {}) ?_
  refine n1 300 false (hc := aHo.h {}) ?_
  iterate 2 refine v0 ?_
  refine s1 (hc := aHo.h {}) ?_
  apply aC
  refine cl [0, 6, 7, 8] ?_
  repeat apply aA
  apply aB
  refine v1 (hc := aHo.h {}) ?_
  refine v0 ?_
  apply aC
  refine eC [0, 6, 7, 8] (h := ?_) (hV := ?_) (n' := ns.length - (k + 1))
  ·omega
  refine ⟨k + 1, by omega, rfl, sgE rfl ?_⟩
  rw [← aFr l hx, aJr, ← aJs]
 ·replace hb1 := hB.h {} hb1
  repeat apply aA
  refine bV ?_
  repeat (first | refine bH ?_ | refine aY ?_ | refine bC ?_ | refine bI rfl ?_)
  try refine bK ?_
  refine cW ?_
  obtain rfl : k = ns.length := by omega
  refine fh0 [0, 1] ?_
  rw [List.take_length]
end
section
open Go.Gh
variable {E : Env Tryz.prog} {A : E.α}
structure aBa (c : Prop) : Prop where
 h : c := by (first | exact True.intro | omega | (simp only [inI]; omega) | (have := dQ; simp [P.size, bU] <;> first | omega | exact this _ | exact ⟨this _, by omega⟩ | grind))
def zz (n : Int) : Nat := if 0 ≤ n then (2 * n).toNat else (-2 * n - 1).toNat
def qI (u : Nat) : List UInt8 := if h : u < 128 then [lA u] else lA ((u % 128 : Nat) + 128) :: qI (u / 128)
termination_by u
decreasing_by omega
theorem aBb {u : Nat} (h : u < 128) : qI u = [lA u] := by rw [qI, dif_pos h]
theorem aFs {u : Nat} (h : ¬ u < 128) : qI u = lA ((u % 128 : Nat) + 128) :: qI (u / 128) := by rw [qI, dif_neg h]
theorem aEg (x : Nat) (h : x < 18446744073709551616) : x ^^^ 18446744073709551615 = 18446744073709551615 - x := by
 have : BitVec.ofNat 64 x ^^^ BitVec.allOnes 64 = ~~~ BitVec.ofNat 64 x := BitVec.xor_allOnes
 have h2 := congrArg BitVec.toNat this
 rw [BitVec.toNat_xor, BitVec.toNat_not, BitVec.toNat_ofNat, BitVec.toNat_allOnes, Nat.mod_eq_of_lt h] at h2
 exact h2
theorem aGj (x y : Nat) (hx : x < 18446744073709551616) (hy : y < 18446744073709551616) : oV .xor .u64 (x : Int) (y : Int) = ((x ^^^ y : Nat) : Int) := by
 have e1 : (BitVec.ofInt 64 (x : Int)).toNat = x := by rw [BitVec.toNat_ofInt]; omega
 have e2 : (BitVec.ofInt 64 (y : Int)).toNat = y := by rw [BitVec.toNat_ofInt]; omega
 have h : (x ^^^ y) < 2 ^ 64 := Nat.xor_lt_two_pow hx hy
 show IntKind.u64.wrap ((BitVec.ofInt 64 (x : Int) ^^^ BitVec.ofInt 64 (y : Int)).toNat : Int) = _
 rw [BitVec.toNat_xor, e1, e2]
 exact IntWalk.u64_in ((x ^^^ y : Nat) : Int) (by omega)
theorem aK8 (n : Int) (h1 : -1000000000 ≤ n) (h2 : n ≤ 1000000000) : oV .xor .u64 (IntKind.u64.wrap (IntKind.u64.wrap n * 2 ^ min 1 IntKind.u64.bits)) (IntKind.u64.wrap (n.fdiv (2 ^ min 63 IntKind.i64.bits))) = (zz n : Int) := by
 have e1 : (2 : Int) ^ min 1 IntKind.u64.bits = 2 := by decide
 have e2 : (2 : Int) ^ min 63 IntKind.i64.bits = 9223372036854775808 := by decide
 rw [e1, e2]
 by_cases h : 0 ≤ n
 ·have f : n.fdiv 9223372036854775808 = 0 := by rw [Int.fdiv_eq_ediv_of_nonneg _ (by omega)]; omega
  have a : IntKind.u64.wrap (IntKind.u64.wrap n * 2) = ((2 * n).toNat : Int) := by rw [IntKind.wrap_u64, IntKind.wrap_u64]; omega
  have b : IntKind.u64.wrap (0 : Int) = ((0 : Nat) : Int) := by rw [IntKind.wrap_u64]; rfl
  rw [f, a, b, aGj _ _ (by omega) (by omega), Nat.xor_zero]
  unfold zz
  rw [if_pos h]
 ·have f : n.fdiv 9223372036854775808 = -1 := by rw [Int.fdiv_eq_ediv_of_nonneg _ (by omega)]; omega
  have a : IntKind.u64.wrap (IntKind.u64.wrap n * 2) = ((2 * n + 18446744073709551616).toNat : Int) := by rw [IntKind.wrap_u64, IntKind.wrap_u64]; omega
  have b : IntKind.u64.wrap (-1 : Int) = ((18446744073709551615 : Nat) : Int) := by rw [IntKind.wrap_u64]; omega
  rw [f, a, b, aGj _ _ (by omega) (by omega), aEg _ (by omega)]
  unfold zz
  rw [if_neg h]
  omega
theorem aGk {n : Int} (h1 : -1000000000 ≤ n) (h2 : n ≤ 1000000000) : zz n < 4294967296 := by unfold zz; split <;> omega
theorem aBc : ∀ (k u : Nat), u < 128 ^ (k + 1) → (qI u).length ≤ k + 1
 | 0, u, h => by rw [aBb (by simpa using h)]; simp
 | k + 1, u, h => by
  by_cases h1 : u < 128
  ·rw [aBb h1]; simp
  ·rw [aFs h1, List.length_cons]
   have := aBc k (u / 128) (by rw [Nat.div_lt_iff_lt_mul (by omega), ← Nat.pow_succ]; exact h)
   omega
theorem aBd (n : Int) : fE [n] = [lA n] := rfl
theorem aGl : aJ Tryz.prog 69 := aJ.mk Tryz.func69 (by kernel_rfl) rfl
theorem wT (l : List UInt8) (n : Int) (h : l.length ≤ 800000) (h1 : -1000000000 ≤ n) (h2 : n ≤ 1000000000) : Gh.bE E 69 [.ref 0 0, .p (.int .i64 n)] (aG [(0, .cells [.own 1 (l).length] 0), (1, .arr 5 1 (u8s (l)) false)]) A (fun y => y = .ok (.p (.tuple [])) (aG [(0, .cells [.own 1 (l ++ qI (zz n)).length] 0), (1, .arr 5 1 (u8s (l ++ qI (zz n))) false)]) A) := by
 refine spX 28 Tryz.func69 rfl ?_
 intro C hN hL
 simp only [Gh.num, List.map_cons, List.map_nil, Nat.reduceAdd]
 repeat apply aA
 apply aB
 refine v0 ?_
 iterate 2 refine v1 (hc := aBa.h {}) ?_
 refine v0 ?_
 iterate 2 refine v1 (hc := aBa.h {}) ?_
 iterate 2 refine v0 ?_
 apply aC
 refine cl [0, 4] ?_
 repeat apply aA
 refine aP ?_
 repeat apply aA
 refine cI (fun mz σ => ∃ (u : Nat) (pre : List UInt8), (u < 4294967296) ∧ (qI (zz n) = pre ++ qI u) ∧ mz = u ∧ σ = (sg [(0, .ref 0 0), (4, .p (.int .u64 (u : Nat)))] [(0, .cells [.own 1 (l ++ pre).length] 0), (1, .arr 5 1 (u8s (l ++ pre)) false)] A [] : Sg E)) ?_ (fun mz σ hI => ?_)
 ·refine gA [0, 4] ?_
  exact ⟨_, zz n, [], aGk h1 h2, by simp, rfl, sgE (by rw [aK8 n h1 h2]) (by simp)⟩
 obtain ⟨u, pre, hu, hnb, hnn, rfl⟩ := hI
 have hpl : pre.length ≤ 10 := by have h3 := congrArg List.length hnb; have h4 := aBc 4 (zz n) (by have := aGk h1 h2; omega); rw [List.length_append] at h3; omega
 repeat apply aA
 apply aB
 iterate 2 refine v0 ?_
 apply aC
 repeat apply aA
 refine cB (k1 := fun hb1 => ?_) (k0 := fun hb1 => ?_)
 ·replace hb1 := hB.h {} hb1
  repeat apply aA
  refine aR ?_
  refine cl [0, 4] ?_
  repeat apply aA
  refine aP ?_
  repeat apply aA
  apply aB
  iterate 2 refine v0 ?_
  refine v1 (hc := aBa.h {}) ?_
  rw [show (u : Int).tmod 128 = ((u % 128 : Nat) : Int) by rw [Int.tmod_eq_emod_of_nonneg (by omega)]; omega]
  iterate 2 refine v1 (hc := aBa.h {}) ?_
  refine n1 310 false (hc := aBa.h {}) ?_
  refine oc0 [(0, 0), (1, 1)] [310] [0, 1] none (spec := rF (l ++ pre) [((u % 128 : Nat) : Int) + 128] (by rw [List.length_append]; omega) (by simp)) (hent := aA9) ?_
  apply aC
  refine cl [0, 4] ?_
  repeat apply aA
  apply aB
  refine v0 ?_
  refine v1 (hc := aBa.h {}) ?_
  refine v0 ?_
  apply aC
  refine eC [0, 4] (h := ?_) (hV := ?_) (n' := u / 128)
  ·omega
  refine ⟨u / 128, pre ++ [lA ((u % 128 : Nat) + 128)], by omega, by rw [hnb, aFs (by omega), List.append_assoc]; rfl, rfl, sgE ?_ (by rw [aBd, List.append_assoc])⟩
  rw [Int.tdiv_eq_ediv_of_nonneg (by omega), wrap_u64 _ (by omega) (by omega)]
  rfl
 ·replace hb1 := hB.h {} hb1
  repeat apply aA
  refine bV ?_
  repeat (first | refine bH ?_ | refine aY ?_ | refine bC ?_ | refine bI rfl ?_)
  refine cl [0, 4] ?_
  repeat apply aA
  apply aB
  iterate 2 refine v0 ?_
  refine v1 (hc := aBa.h {}) ?_
  refine n1 360 false (hc := aBa.h {}) ?_
  refine oc0 [(0, 0), (1, 1)] [360] [0, 1] none (spec := rF (l ++ pre) [(u : Int)] (by rw [List.length_append]; omega) (by simp)) (hent := aA9) ?_
  apply aC
  try refine bK ?_
  refine cW ?_
  refine fh0 [0, 1] ?_
  rw [hnb, aBb (by omega), aBd, List.append_assoc]
end
section
open Go.Gh
variable {E : Env Tryz.prog} {A : E.α}
structure aBe (c : Prop) : Prop where
 h : c := by (first | exact True.intro | omega | (simp only [inI]; omega) | (have := dQ; simp [P.size, bU] <;> first | omega | exact this _ | exact ⟨this _, by omega⟩ | grind))
def pE (s : Int × Int) : List UInt8 := qI (zz s.1) ++ qI (zz (s.2 - s.1))
def okN (n : Int) : Prop := -500000000 ≤ n ∧ n ≤ 500000000
def chk : List UInt8 → Nat
 | l => l.foldl (fun n b => (n * 37 + b.toNat) % 65519) 7
theorem aEh {l : List UInt8} {k : Nat} {b : UInt8} (h : l[k]? = some b) : chk (l.take (k + 1)) = (chk (l.take k) * 37 + b.toNat) % 65519 := by
 have : l.take (k + 1) = l.take k ++ [b] := by rw [List.take_add_one, h]; rfl
 rw [this]; simp [chk]
theorem aFt (l : List UInt8) (k : Nat) : chk (l.take k) < 65519 := by
 have : ∀ (l : List UInt8) (n : Nat), n < 65519 → l.foldl (fun n (b : UInt8) => (n * 37 + b.toNat) % 65519) n < 65519 := fun l => by
  induction l with
  | nil => intro n h; exact h
  | cons b l ih => intro n h; exact ih _ (Nat.mod_lt _ (by omega))
 exact this _ 7 (by omega)
theorem rG {n : Int} (h : -1000000000 ≤ n ∧ n ≤ 1000000000) : (qI (zz n)).length ≤ 5 := aBc 4 (zz n) (by have := aGk h.1 h.2; omega)
theorem aC7 {l : List UInt8} {k : Nat} {b : UInt8} (h : l[k]? = some b) : (u8s l)[k]? = some (.int .u8 b.toNat) := by unfold u8s; rw [List.getElem?_map, h]; rfl
theorem aCd : aJ Tryz.prog 67 := aJ.mk Tryz.func67 (by kernel_rfl) rfl
theorem tY (l : List UInt8) (s : Int × Int) (h : l.length ≤ 700000) (h1 : okN s.1) (h2 : okN s.2) : Gh.bE E 67 [.ref 0 0, .p (pSp s)] (aG [(0, .cells [.own 1 (l).length] 0), (1, .arr 5 1 (u8s (l)) false)]) A (fun y => y = .ok (.p (.tuple [])) (aG [(0, .cells [.own 1 (l ++ pE s).length] 0), (1, .arr 5 1 (u8s (l ++ pE s)) false)]) A) := by
 refine spX 15 Tryz.func67 rfl ?_
 intro C hN hL
 simp only [Gh.num, List.map_cons, List.map_nil, Nat.reduceAdd]
 unfold pSp
 obtain ⟨h11, h12⟩ := h1
 obtain ⟨h21, h22⟩ := h2
 have hz := rG (n := s.1) ⟨by omega, by omega⟩
 repeat apply aA
 apply aB
 refine n1 130 false (hc := aBe.h {}) ?_
 apply aC
 refine cl [0, 3] ?_
 repeat apply aA
 apply aB
 iterate 3 refine v0 ?_
 refine oc0 [(0, 0), (1, 1)] [] [0, 0] none (spec := wT l s.1 (by omega) (by omega) (by omega)) (hent := aGl) ?_
 apply aC
 refine cl [0, 3] ?_
 repeat apply aA
 apply aB
 iterate 5 refine v0 ?_
 refine v1 (hc := aBe.h {}) ?_
 refine oc0 [(0, 0), (1, 1)] [] [0, 0] none (spec := wT (l ++ qI (zz s.1)) (s.2 - s.1) (by rw [List.length_append]; omega) (by omega) (by omega)) (hent := aGl) ?_
 apply aC
 try refine bK ?_
 refine cW ?_
 refine fh0 [0, 1] ?_
 rw [List.append_assoc]
 rfl
theorem aGm : aJ Tryz.prog 70 := aJ.mk Tryz.func70 (by kernel_rfl) rfl
theorem aAf (l : List UInt8) (h : l.length ≤ 800000) : Gh.bE E 70 [.ref 0 0] (aG [(0, .cells [.own 1 (l).length] 0), (1, .arr 5 1 (u8s (l)) false)]) A (fun y => y = .ok (.p (.tuple [])) (aG [(0, .cells [.own 1 (l ++ fE [((chk l / 256 : Nat) : Int), ((chk l % 256 : Nat) : Int)]).length] 0), (1, .arr 5 1 (u8s (l ++ fE [((chk l / 256 : Nat) : Int), ((chk l % 256 : Nat) : Int)])) false)]) A) := by
 refine spX 28 Tryz.func70 rfl ?_
 intro C hN hL
 simp only [Gh.num, List.map_cons, List.map_nil, Nat.reduceAdd]
 repeat apply aA
 apply aB
 refine v0 ?_
 apply aC
 refine cl [0, 2] ?_
 repeat apply aA
 apply aB
 iterate 4 refine v0 ?_
 refine v1 (hc := by (exact bU l)) ?_
 refine v0 ?_
 apply aC
 refine cl [0, 2, 8, 9, 10] ?_
 repeat apply aA
 refine aP ?_
 repeat apply aA
 refine cI (fun mz σ => ∃ k : Nat, (k ≤ l.length) ∧ mz = l.length - k ∧ σ = (sg [(0, .ref 0 0), (2, .p (.int .i64 (chk (l.take k) : Nat))), (8, .own 1 l.length), (9, .p (.int .i64 (l.length : Nat))), (10, .p (.int .i64 (k : Nat)))] [(0, .cells [.own 1 (l).length] 0), (1, .arr 5 1 (u8s (l)) false)] A [] : Sg E)) ?_ (fun mz σ hI => ?_)
 ·refine gA [0, 2, 8, 9, 10] ?_
  exact ⟨_, 0, by omega, rfl, sgE rfl rfl⟩
 obtain ⟨k, hk, hnn, rfl⟩ := hI
 repeat apply aA
 apply aB
 refine v0 ?_
 apply aC
 repeat apply aA
 refine cB (k1 := fun hb1 => ?_) (k0 := fun hb1 => ?_)
 ·replace hb1 := hB.h {} hb1
  repeat apply aA
  refine aR ?_
  refine cl [0, 2, 8, 9, 10] ?_
  repeat apply aA
  refine aP ?_
  repeat apply aA
  obtain ⟨b, hb⟩ := fQ (l := l) (k := k) (by omega)
  have hub : (List.flatMap P.cells (u8s l))[k]? = some (.int .u8 b.toNat) := by rw [aD9]; exact aC7 hb
  have hul := bU l
  have hcl := aFt l k
  have hbl := b.toNat_lt
  apply aB
  refine v1 (hc := aBe.h {}) ?_
  iterate 2 refine v0 ?_
  apply aC
  refine cl [0, 2, 4, 8, 9, 10] ?_
  repeat apply aA
  apply aB
  refine v0 ?_
  refine v1 (hc := aBe.h {}) ?_
  refine v0 ?_
  iterate 3 refine v1 (hc := aBe.h {}) ?_
  refine v0 ?_
  apply aC
  refine cl [0, 2, 8, 9, 10] ?_
  repeat apply aA
  apply aB
  refine v1 (hc := aBe.h {}) ?_
  refine v0 ?_
  apply aC
  refine eC [0, 2, 8, 9, 10] (h := ?_) (hV := ?_) (n' := l.length - (k + 1))
  ·omega
  refine ⟨k + 1, by omega, rfl, sgE ?_ rfl⟩
  rw [aEh hb, Int.tmod_eq_emod_of_nonneg (by omega)]
  rfl
 ·replace hb1 := hB.h {} hb1
  repeat apply aA
  refine bV ?_
  repeat (first | refine bH ?_ | refine aY ?_ | refine bC ?_ | refine bI rfl ?_)
  refine cl [0, 2] ?_
  repeat apply aA
  obtain rfl : k = l.length := by omega
  rw [List.take_length]
  have hcl := aFt l l.length
  rw [List.take_length] at hcl
  have htd : ((chk l : Nat) : Int).tdiv 256 = ((chk l / 256 : Nat) : Int) := by rw [Int.tdiv_eq_ediv_of_nonneg (by omega)]; omega
  have htm : ((chk l : Nat) : Int).tmod 256 = ((chk l % 256 : Nat) : Int) := by rw [Int.tmod_eq_emod_of_nonneg (by omega)]; omega
  apply aB
  iterate 2 refine v0 ?_
  refine v1 (hc := aBe.h {}) ?_
  refine v0 ?_
  refine v1 (hc := aBe.h {}) ?_
  refine n1 360 false (hc := aBe.h {}) ?_
  refine oc0 [(0, 0), (1, 1)] [360] [0, 1] none (spec := rF l [((chk l / 256 : Nat) : Int), ((chk l % 256 : Nat) : Int)] (by omega) (by simp)) (hent := aA9) ?_
  apply aC
  try refine bK ?_
  refine cW ?_
  refine fh0 [0, 1] ?_
  rfl
end
section
open Go.Gh
variable {E : Env Tryz.prog} {A : E.α}
structure aEi (c : Prop) : Prop where
 h : c := by (first | exact True.intro | omega | (simp only [inI]; omega) | (simp [P.size, bR, bF, bN, bB, cR, good, G.one, P.one, P.cells] <;> first | omega | assumption | simp_all))
structure aOn (c : Prop) : Prop where
 h : c := by (first | exact True.intro | omega | (simp [P.size] <;> first | omega | (intro x a b _ h; subst h; rfl) | (intro x a b d _ h; subst h; rfl) | (intro a _; rfl)) | (simp [P.size]; exact ⟨by omega, fun a _ => rfl⟩) | omega | (simp only [inI]; omega) | (simp [P.size, bR, bF, bN, bB, cR, good, G.one, P.one, P.cells] <;> first | omega | assumption | simp_all))
structure Spt where
 e : Int × Int
 n : Int × Int
structure Ngt where
 day : Int
 sp : List Spt
structure Sch where
 v : Int × Int
 ni : List Ngt
 st : Int
def pP (s : Spt) : P := .agg [.int .i64 s.e.1, .int .i64 s.e.2, .int .i64 s.n.1, .int .i64 s.n.2]
def jQ (n : Ngt) : P := .agg [.int .i64 n.day, .list (n.sp.map pP)]
def kI (s : Sch) : P := .agg [.int .i64 s.v.1, .int .i64 s.v.2, .list (s.ni.map jQ), .int .i64 s.st]
def sR (s : Spt) : Bool := !spB (-268435456) 268435456 s.e || !spB (-268435456) 268435456 s.n
def zX (before : Int) (n : Ngt) : Bool := !inB (before + 1) 65536 n.day || n.sp.any sR
def goN : List Ngt → Int → Int → Option Int
 | [], many, _ => some many
 | n :: ns, many, before => if zX before n then none else goN ns (many + n.sp.length) n.day
def Sch.valid (s : Sch) : Bool := match goN s.ni 0 (-1) with
 | none => false
 | some many => spB (-500) 500 s.v && decide ((s.ni.length : Int) ≤ 4) && decide (many ≤ 8) && inB 0 8 s.st
theorem dR {s : Sch} (h : goN s.ni 0 (-1) = none) : s.valid = false := by unfold Sch.valid; rw [h]
theorem gY {s : Sch} {m : Int} (h : goN s.ni 0 (-1) = some m) : s.valid = (spB (-500) 500 s.v && decide ((s.ni.length : Int) ≤ 4) && decide (m ≤ 8) && inB 0 8 s.st) := by unfold Sch.valid; rw [h]
theorem aJt {l : List Ngt} {k : Nat} {x : Ngt} (h : l[k]? = some x) (many before : Int) : goN (l.drop k) many before = if zX before x then none else goN (l.drop (k + 1)) (many + x.sp.length) x.day := by
 obtain ⟨hk, e⟩ := List.getElem?_eq_some_iff.1 h
 rw [List.drop_eq_getElem_cons hk, e]; rfl
theorem yH {before : Int} {n : Ngt} (h : n.day < before + 1 ∨ 65536 < n.day) : zX before n = true := by
 have : inB (before + 1) 65536 n.day = false := by
  cases e : inB (before + 1) 65536 n.day with
  | false => rfl
  | true => simp only [inB, Bool.and_eq_true, decide_eq_true_eq] at e; omega
 unfold zX; rw [this]; rfl
theorem yI {before : Int} {n : Ngt} (h : n.sp.any sR = true) : zX before n = true := by
 unfold zX; rw [h, Bool.or_true]
theorem gC {l ns : List Ngt} {k : Nat} {x : Ngt} {many before : Int} (h : l[k]? = some x) (hg : goN ns 0 (-1) = goN (l.drop k) many before) (hb : zX before x = true) : goN ns 0 (-1) = none := by
 rw [hg, aJt h, if_pos hb]
theorem aJu {lo hi n : Int} (h : inB lo hi n = true) : lo ≤ n ∧ n ≤ hi := by simp only [inB, Bool.and_eq_true, decide_eq_true_eq] at h; exact h
theorem aNl : aJ Tryz.prog 126 := aJ.mk Tryz.func126 (by kernel_rfl) rfl
theorem aK9 (s : Spt) : bZ Tryz.prog 126 [pP s] (.ok (.bool (sR s))) := by
 refine bS Tryz.func126 (rfl : Tryz.f126.body = some _) rfl ?_
 intro E A C hN hL
 replace hN : C.N = 13 := hN
 simp only [Gh.num, List.map_cons, List.map_nil, Nat.reduceAdd]
 have hpss : ∀ s : Spt, pP s = .agg [.int .i64 s.e.1, .int .i64 s.e.2, .int .i64 s.n.1, .int .i64 s.n.2] := fun _ => rfl
 repeat apply aA
 apply aB
 refine n1 110 false (hc := aEi.h {}) ?_
 refine v0 ?_
 apply aC
 refine cl [1] ?_
 repeat apply aA
 apply aB
 iterate 2 refine v0 ?_
 refine pc0 (spec := kX s.e.1 s.e.2 (-268435456) (268435456)) (hent := tI) ?_
 iterate 2 refine v0 ?_
 refine b0 (k1 := fun hb1 => ?_) (k0 := fun hb1 => ?_)
 ·replace hb1 := hB.h {} hb1
  iterate 4 refine x0 ?_
  iterate 2 refine v0 ?_
  apply aC
  repeat apply aA
  refine aL ?_
  repeat (first | refine aH ?_ | refine aF ?_ | refine aD ?_)
  refine aM ?_
  refine fp ?_
  simp only [sR, spB] at *
  simp_all [dS.at]
  all_goals first | (intros; omega) | grind
 ·replace hb1 := hB.h {} hb1
  iterate 2 refine w0 ?_
  refine pcw (spec := kX s.n.1 s.n.2 (-268435456) (268435456)) (hent := tI) ?_
  refine w0 ?_
  iterate 2 refine v0 ?_
  apply aC
  repeat apply aA
  refine aL ?_
  repeat (first | refine aH ?_ | refine aF ?_ | refine aD ?_)
  refine aM ?_
  refine fp ?_
  simp only [sR, spB] at *
  simp_all [dS.at]
  all_goals first | (intros; omega) | grind
theorem aNm : aJ Tryz.prog 158 := aJ.mk Tryz.func158 (by kernel_rfl) rfl
theorem aNn (l : List (Spt)) (hl : l.length ≤ 1048576)  : Gh.bE E 158 [.p (.list (l.map pP)), .p (.fn (.func 126) [] [])] (aG []) A (fun y => y = .ok (.p (.int .i64 (kZ sR l 0))) (aG []) A) := by
 refine spX 19 Tryz.func158 rfl ?_
 intro C hN hL
 simp only [Gh.num, List.map_cons, List.map_nil, Nat.reduceAdd]
 have hpss : ∀ s : Spt, pP s = .agg [.int .i64 s.e.1, .int .i64 s.e.2, .int .i64 s.n.1, .int .i64 s.n.2] := fun _ => rfl
 repeat apply aA
 apply aB
 refine v0 ?_
 apply aC
 refine cl [0, 1] ?_
 repeat apply aA
 apply aB
 iterate 3 refine v0 ?_
 apply aC
 refine cl [0, 1, 7, 8] ?_
 repeat apply aA
 refine aP ?_
 repeat apply aA
 refine cI (fun mz σ => ∃ k : Nat, (k ≤ l.length) ∧ (kZ sR l 0 = kZ sR (l.drop k) k) ∧ mz = l.length - k ∧ σ = (sg [(0, .p (.list (l.map pP))), (1, .p (.fn (.func 126) [] [])), (7, .p (.int .i64 l.length)), (8, .p (.int .i64 k))] [] A [] : Sg E)) ?_ (fun mz σ hI => ?_)
 ·refine gA [0, 1, 7, 8] ?_
  exact ⟨_, 0, by omega, by simp, rfl, rfl⟩
 obtain ⟨k, hk, hi, hn, rfl⟩ := hI
 repeat apply aA
 apply aB
 refine v0 ?_
 apply aC
 repeat apply aA
 refine cB (k1 := fun hb1 => ?_) (k0 := fun hb1 => ?_)
 ·replace hb1 := hB.h {} hb1
  repeat apply aA
  refine aR ?_
  refine cl [0, 1, 7, 8] ?_
  repeat apply aA
  refine aP ?_
  repeat apply aA
  apply aB
  iterate 2 refine v0 ?_
  apply aC
  refine cl [0, 1, 5, 7, 8] ?_
  repeat apply aA
  obtain ⟨x, hx⟩ := fQ (l := l) (k := k) (by omega)
  apply aB
  iterate 3 refine v0 ?_
  refine v1 (hc := aOn.h {}) ?_
  refine v0 ?_
  refine pc0 (spec := aK9 x) (hent := aNl) ?_
  apply aC
  repeat apply aA
  refine cB (k1 := fun hb2 => ?_) (k0 := fun hb2 => ?_)
  ·replace hb2 := hB.h {} hb2
   repeat apply aA
   apply aB
   iterate 2 refine v0 ?_
   apply aC
   repeat apply aA
   refine aL ?_
   repeat (first | refine aH ?_ | refine aF ?_ | refine aD ?_)
   refine aM ?_
   refine fp ?_
   simp only [dS.at, cK.ok.injEq, G.p.injEq, P.int.injEq, true_and, and_true]
   first
   | (rw [hi, fB hx]; simp_all; done)
   | (rw [hi, List.drop_eq_nil_of_le (by omega)]; rfl)
  ·replace hb2 := hB.h {} hb2
   repeat apply aA
   refine aR ?_
   refine cl [0, 1, 7, 8] ?_
   repeat apply aA
   apply aB
   refine v1 (hc := aOn.h {}) ?_
   refine v0 ?_
   apply aC
   refine eC [0, 1, 7, 8] (h := ?_) (hV := ?_) (n' := l.length - (k + 1))
   ·omega
   exact ⟨k + 1, by omega, by rw [hi, fB hx]; simp_all, rfl, rfl⟩
 ·replace hb1 := hB.h {} hb1
  repeat apply aA
  refine bV ?_
  repeat (first | refine bH ?_ | refine aY ?_ | refine bC ?_ | refine bI rfl ?_)
  refine cl [] ?_
  repeat apply aA
  apply aB
  refine v0 ?_
  apply aC
  repeat apply aA
  refine aL ?_
  repeat (first | refine aH ?_ | refine aF ?_ | refine aD ?_)
  refine aM ?_
  refine fp ?_
  simp only [dS.at, cK.ok.injEq, G.p.injEq, P.int.injEq, true_and, and_true]
  first
  | (rw [hi, fB hx]; simp_all; done)
  | (rw [hi, List.drop_eq_nil_of_le (by omega)]; rfl)
theorem aNo : aJ Tryz.prog 129 := aJ.mk Tryz.func129 (by kernel_rfl) rfl
theorem aNp (l : List (Spt)) (hl : l.length ≤ 1048576)  : Gh.bE E 129 [.p (.list (l.map pP)), .p (.fn (.func 126) [] [])] (aG []) A (fun y => y = .ok (.p (.bool (l.any sR))) (aG []) A) := by
 refine spX 9 Tryz.func129 rfl ?_
 intro C hN hL
 simp only [Gh.num, List.map_cons, List.map_nil, Nat.reduceAdd]
 repeat apply aA
 apply aB
 refine v0 ?_
 apply aC
 refine cl [0, 1] ?_
 repeat apply aA
 apply aB
 iterate 2 refine v0 ?_
 refine oc0 [] [] [0, 0] none (spec := aNn l hl ) (hent := aNm) ?_
 iterate 2 refine v0 ?_
 apply aC
 repeat apply aA
 refine aL ?_
 repeat (first | refine aH ?_ | refine aF ?_ | refine aD ?_)
 refine aM ?_
 refine fp ?_
 rw [← nN sR l 0]
theorem aJv : aJ Tryz.prog 66 := aJ.mk Tryz.func66 (by kernel_rfl) rfl
theorem aC8 (s : Sch) (h1 : s.ni.length ≤ 1048576) (h2 : ∀ n ∈ s.ni, n.sp.length ≤ 1048576) : Gh.bE E 66 [.p (kI s)] (aG []) A (fun y => y = .ok (.p (.bool s.valid)) (aG []) A) := by
 refine spX 53 Tryz.func66 rfl ?_
 intro C hN hL
 simp only [Gh.num, List.map_cons, List.map_nil, Nat.reduceAdd]
 unfold kI
 have hpsn : ∀ s : Ngt, jQ s = .agg [.int .i64 s.day, .list (s.sp.map pP)] := fun _ => rfl
 repeat apply aA
 apply aB
 refine n1 110 false (hc := aEi.h {}) ?_
 refine v0 ?_
 apply aC
 refine cl [1] ?_
 repeat apply aA
 apply aB
 refine v0 ?_
 apply aC
 refine cl [1, 3] ?_
 repeat apply aA
 apply aB
 iterate 2 refine v0 ?_
 apply aC
 refine cl [1, 3, 4, 5] ?_
 repeat apply aA
 apply aB
 iterate 4 refine v0 ?_
 apply aC
 refine cl [1, 3, 4, 5, 9, 10, 11] ?_
 repeat apply aA
 refine aP ?_
 repeat apply aA
 refine cI (fun mz σ => ∃ (k : Nat) (many before : Int), (k ≤ s.ni.length) ∧ (goN s.ni 0 (-1) = goN (s.ni.drop k) many before) ∧ (0 ≤ many ∧ many ≤ k * 1048576) ∧ (-1 ≤ before ∧ before ≤ 65536) ∧ mz = s.ni.length - k ∧ σ = (sg [(1, .ref 110 0), (3, .p (.fn (.func 126) [] [])), (4, .p (.int .i64 many)), (5, .p (.int .i64 before)), (9, .p (.list (s.ni.map jQ))), (10, .p (.int .i64 (s.ni.length : Nat))), (11, .p (.int .i64 (k : Nat)))] [(110, .cells [.p (.int .i64 s.v.1), .p (.int .i64 s.v.2), .p (.list (s.ni.map jQ)), .p (.int .i64 s.st)] 0)] A [] : Sg E)) ?_ (fun mz σ hI => ?_)
 ·refine gA [1, 3, 4, 5, 9, 10, 11] ?_
  exact ⟨_, 0, 0, -1, by omega, rfl, by omega, by omega, rfl, rfl⟩
 obtain ⟨k, many, before, hk, hgo, hmany, hbef, hnn, rfl⟩ := hI
 repeat apply aA
 apply aB
 refine v0 ?_
 apply aC
 repeat apply aA
 refine cB (k1 := fun hb1 => ?_) (k0 := fun hb1 => ?_)
 ·replace hb1 := hB.h {} hb1
  repeat apply aA
  refine aR ?_
  refine cl [1, 3, 4, 5, 9, 10, 11] ?_
  repeat apply aA
  refine aP ?_
  repeat apply aA
  obtain ⟨x, hx⟩ := fQ (l := s.ni) (k := k) (by omega)
  have hxs := h2 x (List.mem_of_getElem? hx)
  apply aB
  refine v1 (hc := aEi.h {}) ?_
  refine v0 ?_
  refine n1 170 false (hc := aEi.h {}) ?_
  refine s1 (hc := aEi.h {}) ?_
  apply aC
  refine cl [1, 3, 4, 5, 7, 9, 10, 11] ?_
  repeat apply aA
  apply aB
  iterate 3 refine v0 ?_
  refine v1 (hc := aEi.h {}) ?_
  refine pc0 (spec := gB _ _ _) (hent := mS) ?_
  iterate 2 refine v0 ?_
  refine b0 (k1 := fun hb2 => ?_) (k0 := fun hb2 => ?_)
  ·replace hb2 := hB.h {} hb2
   iterate 4 refine x0 ?_
   refine v0 ?_
   apply aC
   repeat apply aA
   refine cT ?_
   repeat apply aA
   apply aB
   refine v0 ?_
   apply aC
   repeat apply aA
   refine aL ?_
   repeat (first | refine aH ?_ | refine aF ?_ | refine aD ?_)
   refine aM ?_
   refine fp ?_
   first
   | (rw [dR (gC hx hgo (yH (by assumption)))]; try rfl)
   | (rw [dR (gC hx hgo (yI (by assumption)))]; try rfl)
   | (rw [List.drop_length] at hgo; rw [gY hgo]; simp only [spB, inB] at *; simp_all; all_goals (intros; omega))
  ·replace hb2 := hB.h {} hb2
   iterate 3 refine w0 ?_
   refine ocw [] [] [0, 0] none (spec := aNp x.sp hxs) (hent := aNo) ?_
   refine v0 ?_
   apply aC
   repeat apply aA
   refine cB (k1 := fun hb3 => ?_) (k0 := fun hb3 => ?_)
   ·replace hb3 := hB.h {} hb3
    repeat apply aA
    apply aB
    refine v0 ?_
    apply aC
    repeat apply aA
    refine aL ?_
    repeat (first | refine aH ?_ | refine aF ?_ | refine aD ?_)
    refine aM ?_
    refine fp ?_
    first
    | (rw [dR (gC hx hgo (yH (by assumption)))]; try rfl)
    | (rw [dR (gC hx hgo (yI (by assumption)))]; try rfl)
    | (rw [List.drop_length] at hgo; rw [gY hgo]; simp only [spB, inB] at *; simp_all; all_goals (intros; omega))
   ·replace hb3 := hB.h {} hb3
    repeat apply aA
    refine aR ?_
    refine cl [1, 3, 4, 7, 9, 10, 11] ?_
    repeat apply aA
    refine rd ?_
    refine d0 0 ?_
    refine d0 1 ?_
    refine d0 2 ?_
    refine d0 3 ?_
    refine d1 4 (hc := aEi.h {}) ?_
    refine d0 5 ?_
    refine d0 6 ?_
    refine d0 7 ?_
    refine d0 8 ?_
    refine dz 9 [0, 0, 2, 6, 15, 0, 32, 31, 255] ?_
    refine de 9 ?_
    refine cl [1, 3, 4, 5, 9, 10, 11] ?_
    repeat apply aA
    apply aB
    refine v1 (hc := aEi.h {}) ?_
    refine v0 ?_
    apply aC
    refine eC [1, 3, 4, 5, 9, 10, 11] (h := ?_) (hV := ?_) (n' := s.ni.length - (k + 1))
    ·omega
    have hbx : zX before x = false := by unfold zX; simp_all [inB]
    have hday : inB (before + 1) 65536 x.day = true := by unfold zX at hbx; simp_all
    have hd2 := aJu hday
    exact ⟨k + 1, many + x.sp.length, x.day, by omega, by rw [hgo, aJt hx, hbx]; rfl, by omega, by omega, rfl, rfl⟩
 ·replace hb1 := hB.h {} hb1
  repeat apply aA
  refine bV ?_
  repeat (first | refine bH ?_ | refine aY ?_ | refine bC ?_ | refine bI rfl ?_)
  refine cl [1, 4] ?_
  repeat apply aA
  obtain rfl : k = s.ni.length := by omega
  apply aB
  iterate 2 refine v0 ?_
  refine pc0 (spec := kX s.v.1 s.v.2 (-500) (500)) (hent := tI) ?_
  refine v0 ?_
  refine b0 (k1 := fun hb4 => ?_) (k0 := fun hb4 => ?_)
  ·replace hb4 := hB.h {} hb4
   iterate 4 refine w0 ?_
   iterate 2 refine v0 ?_
   refine b0 (k1 := fun hb5 => ?_) (k0 := fun hb5 => ?_)
   ·replace hb5 := hB.h {} hb5
    iterate 2 refine w0 ?_
    iterate 2 refine v0 ?_
    refine b0 (k1 := fun hb6 => ?_) (k0 := fun hb6 => ?_)
    ·replace hb6 := hB.h {} hb6
     iterate 2 refine w0 ?_
     refine pcw (spec := gB _ _ _) (hent := mS) ?_
     iterate 2 refine v0 ?_
     apply aC
     repeat apply aA
     refine aL ?_
     repeat (first | refine aH ?_ | refine aF ?_ | refine aD ?_)
     refine aM ?_
     refine fp ?_
     first
     | (rw [dR (gC hx hgo (yH (by assumption)))]; try rfl)
     | (rw [dR (gC hx hgo (yI (by assumption)))]; try rfl)
     | (rw [List.drop_length] at hgo; rw [gY hgo]; simp only [spB, inB] at *; simp_all; all_goals (intros; omega))
    ·replace hb6 := hB.h {} hb6
     iterate 3 refine x0 ?_
     iterate 2 refine v0 ?_
     apply aC
     repeat apply aA
     refine aL ?_
     repeat (first | refine aH ?_ | refine aF ?_ | refine aD ?_)
     refine aM ?_
     refine fp ?_
     first
     | (rw [dR (gC hx hgo (yH (by assumption)))]; try rfl)
     | (rw [dR (gC hx hgo (yI (by assumption)))]; try rfl)
     | (rw [List.drop_length] at hgo; rw [gY hgo]; simp only [spB, inB] at *; simp_all; all_goals (intros; omega))
   ·replace hb5 := hB.h {} hb5
    iterate 2 refine x0 ?_
    iterate 2 refine v0 ?_
    iterate 3 refine x0 ?_
    iterate 2 refine v0 ?_
    apply aC
    repeat apply aA
    refine aL ?_
    repeat (first | refine aH ?_ | refine aF ?_ | refine aD ?_)
    refine aM ?_
    refine fp ?_
    first
    | (rw [dR (gC hx hgo (yH (by assumption)))]; try rfl)
    | (rw [dR (gC hx hgo (yI (by assumption)))]; try rfl)
    | (rw [List.drop_length] at hgo; rw [gY hgo]; simp only [spB, inB] at *; simp_all; all_goals (intros; omega))
  ·replace hb4 := hB.h {} hb4
   iterate 4 refine x0 ?_
   iterate 2 refine v0 ?_
   iterate 2 refine x0 ?_
   iterate 2 refine v0 ?_
   iterate 3 refine x0 ?_
   iterate 2 refine v0 ?_
   apply aC
   repeat apply aA
   refine aL ?_
   repeat (first | refine aH ?_ | refine aF ?_ | refine aD ?_)
   refine aM ?_
   refine fp ?_
   first
   | (rw [dR (gC hx hgo (yH (by assumption)))]; try rfl)
   | (rw [dR (gC hx hgo (yI (by assumption)))]; try rfl)
   | (rw [List.drop_length] at hgo; rw [gY hgo]; simp only [spB, inB] at *; simp_all; all_goals (intros; omega))
end
section
open Go.Gh
variable {E : Env Tryz.prog} {A : E.α}
structure wU (c : Prop) : Prop where
 h : c := by (first | exact True.intro | omega | (simp [P.size] <;> first | omega | (intro x a b _ h; subst h; rfl) | (intro a _; rfl)) | (simp [P.size]; exact ⟨by omega, fun a _ => rfl⟩) | omega | (simp only [inI]; omega) | (simp [P.size, bR, bF, bN, bB, cR, good, G.one, P.one, P.cells] <;> first | omega | assumption | simp_all))
def oU (x : Spt) : List UInt8 := pE x.e ++ pE x.n
def tN (n : Ngt) : List UInt8 := qI (zz n.day) ++ fE [(n.sp.length : Int)]
def gL (n : Ngt) : List UInt8 := tN n ++ n.sp.flatMap oU
def iR (s : Sch) : List UInt8 := [83] ++ pE s.v ++ fE [s.st, (s.ni.length : Int)]
def uS (s : Sch) : List UInt8 := iR s ++ s.ni.flatMap gL
def yJ (l : List UInt8) : List UInt8 := l ++ fE [((chk l / 256 : Nat) : Int), ((chk l % 256 : Nat) : Int)]
def oO (s : Sch) : List UInt8 := yJ (uS s)
theorem tZ {α : Type} {l : List α} {k : Nat} {x : α} (f : α → List UInt8) (h : l[k]? = some x) : (l.take (k + 1)).flatMap f = (l.take k).flatMap f ++ f x := by
 have : l.take (k + 1) = l.take k ++ [x] := by rw [List.take_add_one, h]; rfl
 rw [this]; simp
theorem tO {α : Type} {f : α → List UInt8} {c : Nat} : ∀ {l : List α}, (∀ x ∈ l, (f x).length ≤ c) → (l.flatMap f).length ≤ c * l.length
 | [], _ => by simp
 | x :: l, h => by
  have h1 := h x (List.mem_cons_self ..)
  have h2 := tO (l := l) fun y hy => h y (List.mem_cons_of_mem _ hy)
  rw [List.flatMap_cons, List.length_append, List.length_cons, Nat.mul_succ]; omega
theorem gE {α : Type} {f : α → List UInt8} {c : Nat} {l : List α} (h : ∀ x ∈ l, (f x).length ≤ c) (k : Nat) : ((l.take k).flatMap f).length ≤ c * l.length := by
 have h1 := tO (l := l.take k) fun x hx => h x (List.mem_of_mem_take hx)
 have h2 : c * (l.take k).length ≤ c * l.length := Nat.mul_le_mul_left _ (by rw [List.length_take]; omega)
 omega
theorem aGn : ∀ (l : List Ngt) (many before m : Int), -1 ≤ before → goN l many before = some m → many ≤ m ∧ ∀ n ∈ l, (0 ≤ n.day ∧ n.day ≤ 65536) ∧ n.sp.any sR = false ∧ (n.sp.length : Int) ≤ m - many
 | [], many, before, m, _, h => by
  simp only [goN, Option.some.injEq] at h
  exact ⟨by omega, fun n hn => by cases hn⟩
 | n :: ns, many, before, m, hb, h => by
  simp only [goN] at h
  split at h
  ·cases h
  ·rename_i hq
   have hq : zX before n = false := by simpa using hq
   simp only [zX, Bool.or_eq_false_iff, Bool.not_eq_false'] at hq
   have hd := aJu hq.1
   obtain ⟨h1, h2⟩ := aGn ns _ _ m (by omega) h
   refine ⟨by omega, fun x hx => ?_⟩
   rcases List.mem_cons.1 hx with rfl | hx
   ·exact ⟨by omega, hq.2, by omega⟩
   ·obtain ⟨a, b, c⟩ := h2 x hx
    exact ⟨a, b, by omega⟩
theorem aJw {lo hi : Int} {s : Int × Int} (h : spB lo hi s = true) (h1 : -300000000 ≤ lo) (h2 : hi ≤ 300000000) : okN s.1 ∧ okN s.2 := by
 simp only [spB, Bool.and_eq_true, decide_eq_true_eq] at h
 unfold okN; omega
structure aEj (s : Sch) : Prop where
 v : okN s.v.1 ∧ okN s.v.2
 ni : s.ni.length ≤ 4
 day : ∀ n ∈ s.ni, okN n.day
 sp : ∀ n ∈ s.ni, n.sp.length ≤ 8
 spt : ∀ n ∈ s.ni, ∀ x ∈ n.sp, (okN x.e.1 ∧ okN x.e.2) ∧ okN x.n.1 ∧ okN x.n.2
theorem aOo {α : Type} {l : List α} {q : α → Bool} (h : l.any q = false) {x : α} (hx : x ∈ l) : q x = false := jP (by rw [h]; rfl) hx
theorem aC9 {s : Sch} (h : s.valid = true) : aEj s := by
 cases hg : goN s.ni 0 (-1) with
 | none => rw [dR hg] at h; cases h
 | some m =>
  rw [gY hg] at h
  simp only [Bool.and_eq_true, decide_eq_true_eq] at h
  obtain ⟨⟨⟨h1, h2⟩, h3⟩, h4⟩ := h
  obtain ⟨_, ha⟩ := aGn s.ni 0 (-1) m (by omega) hg
  refine ⟨aJw h1 (by omega) (by omega), by omega, fun n hn => ?_, fun n hn => ?_, fun n hn x hx => ?_⟩
  ·have := (ha n hn).1; unfold okN; omega
  ·have := (ha n hn).2.2; omega
  ·have hb := aOo (ha n hn).2.1 hx
   simp only [sR, Bool.or_eq_false_iff, Bool.not_eq_false'] at hb
   exact ⟨aJw hb.1 (by omega) (by omega), aJw hb.2 (by omega) (by omega)⟩
theorem gF {s : Int × Int} (h : okN s.1 ∧ okN s.2) : (pE s).length ≤ 10 := by
 obtain ⟨⟨a, b⟩, c, d⟩ := h
 have h1 := rG (n := s.1) ⟨by omega, by omega⟩
 have h2 := rG (n := s.2 - s.1) ⟨by omega, by omega⟩
 unfold pE; rw [List.length_append]; omega
theorem aBf {s : Sch} (h : aEj s) {n : Ngt} (hn : n ∈ s.ni) : ∀ x ∈ n.sp, (oU x).length ≤ 20 := fun x hx => by
 obtain ⟨a, b⟩ := h.spt n hn x hx
 have h1 := gF a
 have h2 := gF b
 unfold oU; rw [List.length_append]; omega
theorem aBg {s : Sch} (h : aEj s) {n : Ngt} (hn : n ∈ s.ni) : (tN n).length ≤ 6 := by
 obtain ⟨a, b⟩ := h.day n hn
 have h1 := rG (n := n.day) ⟨by omega, by omega⟩
 unfold tN; rw [List.length_append, oN, List.length_singleton]; omega
theorem wV {s : Sch} (h : aEj s) : ∀ n ∈ s.ni, (gL n).length ≤ 166 := fun n hn => by
 have h1 := aBg h hn
 have h2 := tO (aBf h hn)
 have h3 := h.sp n hn
 unfold gL; rw [List.length_append]; omega
theorem wW {s : Sch} (h : aEj s) : (iR s).length ≤ 13 := by
 have h1 := gF h.v
 unfold iR; rw [List.length_append, List.length_append, oN, List.length_singleton, List.length_cons, List.length_singleton]; omega
theorem aCe : aJ Tryz.prog 28 := aJ.mk Tryz.func28 (by kernel_rfl) rfl
theorem vM (s : Sch) (hv : s.valid = true) : Gh.bE E 28 [.p (kI s)] (aG []) A (fun y => y = .ok (.tuple [.own 220 (oO s).length, .p (.int .i64 0)]) (aG [(220, .arr 5 1 (u8s (oO s)) false)]) A) := by
 refine spX 67 Tryz.func28 rfl ?_
 intro C hN hL
 simp only [Gh.num, List.map_cons, List.map_nil, Nat.reduceAdd]
 have hok := aC9 hv
 have hl1 := hok.ni
 have hl2 := hok.sp
 have hv1 := hok.v
 have hsv := gF hok.v
 unfold kI
 have hpss : ∀ s : Spt, pP s = .agg [.int .i64 s.e.1, .int .i64 s.e.2, .int .i64 s.n.1, .int .i64 s.n.2] := fun _ => rfl
 have hpsn : ∀ s : Ngt, jQ s = .agg [.int .i64 s.day, .list (s.sp.map pP)] := fun _ => rfl
 repeat apply aA
 apply aB
 refine n1 110 false (hc := wU.h {}) ?_
 iterate 2 refine v0 ?_
 apply aC
 refine cl [1] ?_
 repeat apply aA
 apply aB
 refine v0 ?_
 refine oc0 [] [] [0] none (spec := aC8 s (by omega) (fun n hn => by have := hl2 n hn; omega)) (hent := aJv) ?_
 refine rb 10 true (h := by (exact hv)) ?_
 refine v0 ?_
 apply aC
 repeat apply aA
 refine cF ?_
 repeat apply aA
 refine aR ?_
 refine cl [1] ?_
 repeat apply aA
 apply aB
 refine n1 220 true (hc := wU.h {}) ?_
 refine v0 ?_
 refine n1 240 false (hc := wU.h {}) ?_
 refine v0 ?_
 apply aC
 refine cl [1, 4] ?_
 repeat apply aA
 rw [show [P.int IntKind.u8 83] = u8s [83] from rfl]
 apply aB
 iterate 3 refine v0 ?_
 refine oc0 [(0, 240), (1, 220)] [] [0, 0] none (spec := tY [83] s.v (by simp) hv1.1 hv1.2) (hent := aCd) ?_
 apply aC
 refine cl [1, 4] ?_
 repeat apply aA
 apply aB
 iterate 6 refine v0 ?_
 refine n1 350 false (hc := wU.h {}) ?_
 refine oc0 [(0, 240), (1, 220)] [350] [0, 1] none (spec := rF ([83] ++ pE s.v) [s.st, (s.ni.length : Int)] (by simp only [List.length_append, List.length_singleton]; omega) (by simp)) (hent := aA9) ?_
 apply aC
 refine cl [1, 4] ?_
 repeat apply aA
 apply aB
 iterate 4 refine v0 ?_
 apply aC
 refine cl [4, 28, 29, 30] ?_
 repeat apply aA
 refine aP ?_
 repeat apply aA
 refine cI (fun mz σ => ∃ k : Nat, (k ≤ s.ni.length) ∧ mz = s.ni.length - k ∧ σ = (sg [(4, .ref 240 0), (28, .p (.list (s.ni.map jQ))), (29, .p (.int .i64 (s.ni.length : Nat))), (30, .p (.int .i64 (k : Nat)))] [(240, .cells [.own 220 (iR s ++ (s.ni.take k).flatMap gL).length] 0), (220, .arr 5 1 (u8s (iR s ++ (s.ni.take k).flatMap gL)) false)] A [] : Sg E)) ?_ (fun mz σ hI => ?_)
 ·refine gA [4, 28, 29, 30] ?_
  exact ⟨_, 0, by omega, rfl, sgE rfl (by simp [iR])⟩
 obtain ⟨k, hk, hnn, rfl⟩ := hI
 repeat apply aA
 apply aB
 refine v0 ?_
 apply aC
 repeat apply aA
 refine cB (k1 := fun hb1 => ?_) (k0 := fun hb1 => ?_)
 ·replace hb1 := hB.h {} hb1
  repeat apply aA
  refine aR ?_
  refine cl [4, 28, 29, 30] ?_
  repeat apply aA
  refine aP ?_
  repeat apply aA
  obtain ⟨x, hx⟩ := fQ (l := s.ni) (k := k) (by omega)
  have hxm := List.mem_of_getElem? hx
  have hx8 := hok.sp x hxm
  have hbl : (iR s ++ (s.ni.take k).flatMap gL).length ≤ 700 := by have h1 := wW hok; have h2 := gE (wV hok) k; have h3 := hok.ni; rw [List.length_append]; omega
  apply aB
  refine v1 (hc := wU.h {}) ?_
  refine v0 ?_
  refine n1 160 false (hc := wU.h {}) ?_
  refine s1 (hc := wU.h {}) ?_
  apply aC
  refine cl [4, 6, 28, 29, 30] ?_
  repeat apply aA
  apply aB
  iterate 3 refine v0 ?_
  refine oc0 [(0, 240), (1, 220)] [] [0, 0] none (spec := wT (iR s ++ (s.ni.take k).flatMap gL) x.day (by omega) (by have := (hok.day x hxm).1; omega) (by have := (hok.day x hxm).2; omega)) (hent := aGl) ?_
  apply aC
  refine cl [4, 6, 28, 29, 30] ?_
  repeat apply aA
  apply aB
  iterate 4 refine v0 ?_
  refine n1 520 false (hc := wU.h {}) ?_
  refine oc0 [(0, 240), (1, 220)] [520] [0, 1] none (spec := rF (iR s ++ (s.ni.take k).flatMap gL ++ qI (zz x.day)) [(x.sp.length : Int)] (by have := rG (n := x.day) (by have := hok.day x hxm; unfold okN at this; omega); rw [List.length_append]; omega) (by simp)) (hent := aA9) ?_
  apply aC
  refine cl [4, 6, 28, 29, 30] ?_
  repeat apply aA
  apply aB
  iterate 4 refine v0 ?_
  apply aC
  refine cl [4, 28, 29, 30, 45, 46, 47] ?_
  repeat apply aA
  refine aP ?_
  repeat apply aA
  refine cI (fun mz σ => ∃ j : Nat, (j ≤ x.sp.length) ∧ mz = x.sp.length - j ∧ σ = (sg [(4, .ref 240 0), (28, .p (.list (s.ni.map jQ))), (29, .p (.int .i64 (s.ni.length : Nat))), (30, .p (.int .i64 (k : Nat))), (45, .p (.list (x.sp.map pP))), (46, .p (.int .i64 (x.sp.length : Nat))), (47, .p (.int .i64 (j : Nat)))] [(240, .cells [.own 220 ((iR s ++ (s.ni.take k).flatMap gL ++ tN x) ++ (x.sp.take j).flatMap oU).length] 0), (220, .arr 5 1 (u8s ((iR s ++ (s.ni.take k).flatMap gL ++ tN x) ++ (x.sp.take j).flatMap oU)) false)] A [] : Sg E)) ?_ (fun mz σ hI => ?_)
  ·refine gA [4, 28, 29, 30, 45, 46, 47] ?_
   exact ⟨_, 0, by omega, rfl, sgE rfl (by simp [tN])⟩
  obtain ⟨j, hj, hnj, rfl⟩ := hI
  repeat apply aA
  apply aB
  refine v0 ?_
  apply aC
  repeat apply aA
  refine cB (k1 := fun hb2 => ?_) (k0 := fun hb2 => ?_)
  ·replace hb2 := hB.h {} hb2
   repeat apply aA
   refine aR ?_
   refine cl [4, 28, 29, 30, 45, 46, 47] ?_
   repeat apply aA
   refine aP ?_
   repeat apply aA
   obtain ⟨y, hy⟩ := fQ (l := x.sp) (k := j) (by omega)
   have hym := List.mem_of_getElem? hy
   obtain ⟨hye, hyn⟩ := hok.spt x hxm y hym
   have hil : ((iR s ++ (s.ni.take k).flatMap gL ++ tN x) ++ (x.sp.take j).flatMap oU).length ≤ 900 := by have h1 := aBg hok hxm; have h2 := gE (aBf hok hxm) j; have h3 := hok.sp x hxm; rw [List.length_append, List.length_append]; omega
   apply aB
   refine v1 (hc := wU.h {}) ?_
   refine v0 ?_
   refine n1 180 false (hc := wU.h {}) ?_
   refine s1 (hc := wU.h {}) ?_
   apply aC
   refine cl [4, 8, 28, 29, 30, 45, 46, 47] ?_
   repeat apply aA
   apply aB
   iterate 3 refine v0 ?_
   refine oc0 [(0, 240), (1, 220)] [] [0, 0] none (spec := tY ((iR s ++ (s.ni.take k).flatMap gL ++ tN x) ++ (x.sp.take j).flatMap oU) y.e (by omega) hye.1 hye.2) (hent := aCd) ?_
   apply aC
   refine cl [4, 8, 28, 29, 30, 45, 46, 47] ?_
   repeat apply aA
   apply aB
   iterate 3 refine v0 ?_
   refine oc0 [(0, 240), (1, 220)] [] [0, 0] none (spec := tY ((iR s ++ (s.ni.take k).flatMap gL ++ tN x) ++ (x.sp.take j).flatMap oU ++ pE y.e) y.n (by have := gF hye; rw [List.length_append]; omega) hyn.1 hyn.2) (hent := aCd) ?_
   apply aC
   refine cl [4, 28, 29, 30, 45, 46, 47] ?_
   repeat apply aA
   apply aB
   refine v1 (hc := wU.h {}) ?_
   refine v0 ?_
   apply aC
   refine eC [4, 28, 29, 30, 45, 46, 47] (h := ?_) (hV := ?_) (n' := x.sp.length - (j + 1))
   ·omega
   exact ⟨j + 1, by omega, rfl, sgE rfl (by rw [tZ oU hy, oU, List.append_assoc, List.append_assoc])⟩
  ·replace hb2 := hB.h {} hb2
   repeat apply aA
   refine bV ?_
   repeat (first | refine bH ?_ | refine aY ?_ | refine bC ?_ | refine bI rfl ?_)
   refine cl [4, 28, 29, 30] ?_
   repeat apply aA
   obtain rfl : j = x.sp.length := by omega
   rw [List.take_length]
   apply aB
   refine v1 (hc := wU.h {}) ?_
   refine v0 ?_
   apply aC
   refine eC [4, 28, 29, 30] (h := ?_) (hV := ?_) (n' := s.ni.length - (k + 1))
   ·omega
   exact ⟨k + 1, by omega, rfl, sgE rfl (by rw [tZ gL hx, gL, List.append_assoc, List.append_assoc])⟩
 ·replace hb1 := hB.h {} hb1
  repeat apply aA
  refine bV ?_
  repeat (first | refine bH ?_ | refine aY ?_ | refine bC ?_ | refine bI rfl ?_)
  refine cl [4] ?_
  repeat apply aA
  have hbl : (iR s ++ (s.ni.take k).flatMap gL).length ≤ 700 := by have h1 := wW hok; have h2 := gE (wV hok) k; have h3 := hok.ni; rw [List.length_append]; omega
  obtain rfl : k = s.ni.length := by omega
  rw [List.take_length] at hbl ⊢
  have hB0 : iR s ++ s.ni.flatMap gL = uS s := rfl
  rw [hB0] at hbl ⊢
  apply aB
  refine v0 ?_
  refine oc0 [(0, 240), (1, 220)] [] [0] none (spec := aAf (uS s) (by omega)) (hent := aGm) ?_
  apply aC
  refine cl [4] ?_
  repeat apply aA
  apply aB
  iterate 6 refine v0 ?_
  apply aC
  repeat apply aA
  refine aL ?_
  repeat (first | refine aH ?_ | refine aF ?_ | refine aD ?_)
  refine aM ?_
  refine fh2 [220] ?_
  rfl
theorem aBh (s : Sch) (hv : s.valid = false) (h1 : s.ni.length ≤ 1048576) (h2 : ∀ n ∈ s.ni, n.sp.length ≤ 1048576) : Gh.bE E 28 [.p (kI s)] (aG []) A (fun y => y = .ok (.p (.tuple [.list [], .int .i64 1])) (aG []) A) := by
 refine spX 67 Tryz.func28 rfl ?_
 intro C hN hL
 simp only [Gh.num, List.map_cons, List.map_nil, Nat.reduceAdd]
 unfold kI
 have hpsn : ∀ s : Ngt, jQ s = .agg [.int .i64 s.day, .list (s.sp.map pP)] := fun _ => rfl
 repeat apply aA
 apply aB
 refine n1 110 false (hc := wU.h {}) ?_
 iterate 2 refine v0 ?_
 apply aC
 refine cl [1] ?_
 repeat apply aA
 apply aB
 refine v0 ?_
 refine oc0 [] [] [0] none (spec := aC8 s h1 h2) (hent := aJv) ?_
 refine rb 10 false (h := by (exact hv)) ?_
 refine v0 ?_
 apply aC
 repeat apply aA
 refine cT ?_
 repeat apply aA
 apply aB
 iterate 2 refine v0 ?_
 apply aC
 repeat apply aA
 refine aL ?_
 repeat (first | refine aH ?_ | refine aF ?_ | refine aD ?_)
 refine aM ?_
 refine fp2 ?_
 rfl
end
section
open Go.Gh
def oP : Nat → Nat → Nat → List UInt8 → Option (Nat × List UInt8)
 | 0, _, _, _ => none
 | _ + 1, _, _, [] => none
 | f + 1, sh, u, b :: l => if b.toNat < 128 then some (u + b.toNat % 128 * 2 ^ sh, l) else oP f (sh + 7) (u + b.toNat % 128 * 2 ^ sh) l
def unz (u : Nat) : Int := if u % 2 = 0 then ((u / 2 : Nat) : Int) else -((u / 2 : Nat) : Int) - 1
def nH (l : List UInt8) : Option (Int × List UInt8) := match oP 6 0 0 l with
 | none => none
 | some z => some (unz z.1, z.2)
def fU (l : List UInt8) : Option ((Int × Int) × List UInt8) := match nH l with
 | none => none
 | some z => match nH z.2 with
  | none => none
  | some y => some ((z.1, z.1 + y.1), y.2)
def oQ (l : List UInt8) : Option (Spt × List UInt8) := match fU l with
 | none => none
 | some z => match fU z.2 with
  | none => none
  | some y => some (⟨z.1, y.1⟩, y.2)
def iH : Nat → List UInt8 → Option (List Spt × List UInt8)
 | 0, l => some ([], l)
 | k + 1, l => match oQ l with
  | none => none
  | some z => match iH k z.2 with
   | none => none
   | some y => some (z.1 :: y.1, y.2)
def yK (l : List UInt8) : Option (Ngt × List UInt8) := match nH l with
 | none => none
 | some z => match z.2 with
  | [] => none
  | b :: r => match iH b.toNat r with
   | none => none
   | some y => some (⟨z.1, y.1⟩, y.2)
def jR : Nat → List UInt8 → Option (List Ngt × List UInt8)
 | 0, l => some ([], l)
 | k + 1, l => match yK l with
  | none => none
  | some z => match jR k z.2 with
   | none => none
   | some y => some (z.1 :: y.1, y.2)
def eQ : List UInt8 → Option (Sch × List UInt8)
 | [] => none
 | b :: l => if b = 83 then (match fU l with
  | none => none
  | some z => match z.2 with
   | [] => none
   | [_] => none
   | st :: n :: r => match jR n.toNat r with
    | none => none
    | some y => some (⟨z.1, y.1, (st.toNat : Int)⟩, y.2)) else none
def qJ (b : List UInt8) : Option Sch := match eQ (b.take (b.length - 2)) with
 | none => none
 | some z => if z.2 = [] ∧ z.1.valid = true ∧ oO z.1 = b then some z.1 else none
def aDa (b : List UInt8) : Prop := b.length < 2 ∨ yJ (b.take (b.length - 2)) ≠ b
theorem qK {n : Nat} (h : n < 256) : (lA (n : Int)).toNat = n := by
 unfold lA
 rw [UInt8.toNat_ofNat']
 omega
theorem aHp {n : Int} (h0 : 0 ≤ n) (h : n < 256) : ((lA n).toNat : Int) = n := by
 unfold lA
 rw [UInt8.toNat_ofNat']
 omega
theorem aEk : ∀ (f u sh acc : Nat) (r : List UInt8), u < 128 ^ (f + 1) → oP (f + 1) sh acc (qI u ++ r) = some (acc + u * 2 ^ sh, r)
 | 0, u, sh, acc, r, h => by
  have h1 : u < 128 := by simpa using h
  rw [aBb h1]
  simp only [List.cons_append, List.nil_append, oP, qK (show u < 256 by omega)]
  rw [if_pos h1, Nat.mod_eq_of_lt h1]
 | f + 1, u, sh, acc, r, h => by
  by_cases h1 : u < 128
  ·rw [aBb h1]
   simp only [List.cons_append, List.nil_append, oP, qK (show u < 256 by omega)]
   rw [if_pos h1, Nat.mod_eq_of_lt h1]
  ·rw [aFs h1]
   have e : (lA ((u % 128 : Nat) + 128)).toNat = u % 128 + 128 := by
    have := qK (n := u % 128 + 128) (by omega)
    rw [← this]; rfl
   simp only [List.cons_append]
   rw [oP, e, if_neg (by omega), aEk f (u / 128) (sh + 7) _ r (by rw [Nat.pow_succ] at h; omega)]
   have e2 : (u % 128 + 128) % 128 = u % 128 := by omega
   have e3 : u / 128 * 2 ^ (sh + 7) = 128 * (u / 128) * 2 ^ sh := by
    rw [Nat.pow_add, show (2 : Nat) ^ 7 = 128 by rfl, ← Nat.mul_assoc, Nat.mul_right_comm, Nat.mul_comm (u / 128) 128]
   rw [e2, e3, Nat.add_assoc, ← Nat.add_mul]
   congr 4
   omega
theorem aNq (n : Int) : unz (zz n) = n := by
 unfold unz zz
 split <;> split <;> omega
theorem aBi {n : Int} (h1 : -1000000000 ≤ n) (h2 : n ≤ 1000000000) (r : List UInt8) : nH (qI (zz n) ++ r) = some (n, r) := by
 have := aGk h1 h2
 unfold nH
 rw [aEk 5 (zz n) 0 0 r (by omega)]
 simp [aNq]
theorem vN {s : Int × Int} (h : okN s.1 ∧ okN s.2) (r : List UInt8) : fU (pE s ++ r) = some (s, r) := by
 obtain ⟨⟨a, b⟩, c, d⟩ := h
 unfold fU pE
 rw [List.append_assoc, aBi (by omega) (by omega)]
 simp only
 rw [aBi (by omega) (by omega)]
 simp only
 rw [show s.1 + (s.2 - s.1) = s.2 by omega]
theorem aFu {x : Spt} (h : (okN x.e.1 ∧ okN x.e.2) ∧ okN x.n.1 ∧ okN x.n.2) (r : List UInt8) : oQ (oU x ++ r) = some (x, r) := by
 unfold oQ oU
 rw [List.append_assoc, vN h.1]
 simp only
 rw [vN h.2]
theorem wX : ∀ {l : List Spt}, (∀ x ∈ l, (okN x.e.1 ∧ okN x.e.2) ∧ okN x.n.1 ∧ okN x.n.2) → ∀ r, iH l.length (l.flatMap oU ++ r) = some (l, r)
 | [], _, r => rfl
 | x :: l, h, r => by
  rw [List.length_cons, List.flatMap_cons, List.append_assoc, iH, aFu (h x (List.mem_cons_self ..))]
  simp only
  rw [wX fun y hy => h y (List.mem_cons_of_mem _ hy)]
theorem aFv {n : Ngt} (hd : okN n.day) (hl : n.sp.length ≤ 8) (h : ∀ x ∈ n.sp, (okN x.e.1 ∧ okN x.e.2) ∧ okN x.n.1 ∧ okN x.n.2) (r : List UInt8) : yK (gL n ++ r) = some (n, r) := by
 unfold yK gL tN
 obtain ⟨a, b⟩ := hd
 rw [List.append_assoc, List.append_assoc, aBi (by omega) (by omega)]
 simp only [fE, List.map_cons, List.map_nil, List.cons_append, List.nil_append]
 rw [qK (by omega), wX h]
theorem zG : ∀ {l : List Ngt}, (∀ n ∈ l, okN n.day) → (∀ n ∈ l, n.sp.length ≤ 8) → (∀ n ∈ l, ∀ x ∈ n.sp, (okN x.e.1 ∧ okN x.e.2) ∧ okN x.n.1 ∧ okN x.n.2) → ∀ r, jR l.length (l.flatMap gL ++ r) = some (l, r)
 | [], _, _, _, r => rfl
 | n :: l, h1, h2, h3, r => by
  rw [List.length_cons, List.flatMap_cons, List.append_assoc, jR, aFv (h1 n (List.mem_cons_self ..)) (h2 n (List.mem_cons_self ..)) (h3 n (List.mem_cons_self ..))]
  simp only
  rw [zG (fun y hy => h1 y (List.mem_cons_of_mem _ hy)) (fun y hy => h2 y (List.mem_cons_of_mem _ hy)) (fun y hy => h3 y (List.mem_cons_of_mem _ hy))]
theorem aOp {s : Sch} (h : s.valid = true) : 0 ≤ s.st ∧ s.st ≤ 8 := by
 cases hg : goN s.ni 0 (-1) with
 | none => rw [dR hg] at h; cases h
 | some m =>
  rw [gY hg] at h
  simp only [Bool.and_eq_true, decide_eq_true_eq] at h
  exact aJu h.2
theorem aFw {s : Sch} (h : s.valid = true) : eQ (uS s) = some (s, []) := by
 have H := aC9 h
 have hst := aOp h
 unfold uS iR
 simp only [List.cons_append, List.nil_append, List.append_assoc, eQ]
 rw [if_pos trivial, vN H.v]
 have hni := H.ni
 simp only [fE, List.map_cons, List.map_nil, List.cons_append, List.nil_append]
 rw [qK (by omega)]
 have := zG H.day H.sp H.spt []
 rw [List.append_nil] at this
 rw [this]
 simp only
 rw [aHp (by omega) (by omega)]
theorem aJx (l : List UInt8) : (yJ l).take ((yJ l).length - 2) = l := by
 unfold yJ
 have : (l ++ fE [((chk l / 256 : Nat) : Int), ((chk l % 256 : Nat) : Int)]).length - 2 = l.length := by simp [fE]
 rw [this, List.take_left]
theorem aAg (l : List UInt8) : (yJ l).length = l.length + 2 := by simp [yJ, fE]
theorem aCf {s : Sch} (h : s.valid = true) : qJ (oO s) = some s ∧ ¬ aDa (oO s) := by
 have h1 : (oO s).take ((oO s).length - 2) = uS s := aJx _
 constructor
 ·unfold qJ
  rw [h1, aFw h]
  simp [h]
 ·unfold aDa
  rw [h1]
  have := aAg (uS s)
  rintro (h2 | h2)
  ·simp only [oO] at h2; omega
  ·exact h2 rfl
theorem aFx {b : List UInt8} {s : Sch} (h : qJ b = some s) : s.valid = true ∧ oO s = b := by
 unfold qJ at h
 split at h
 ·cases h
 ·split at h
  ·rename_i h2
   cases h
   exact h2.2
  ·cases h
theorem vO {s : Sch} (h : s.valid = true) : (oO s).length ≤ 4096 := by
 have H := aC9 h
 have h1 : (pE s.v).length ≤ 10 := gF H.v
 have h2 : ∀ n ∈ s.ni, (gL n).length ≤ 166 := fun n hn => by
  have hd : okN n.day := H.day n hn
  have h3 := rG (n := n.day) ⟨by unfold okN at hd; omega, by unfold okN at hd; omega⟩
  have h4 : (n.sp.flatMap oU).length ≤ 20 * n.sp.length := tO fun x hx => by
   have a := gF (H.spt n hn x hx).1
   have b := gF (H.spt n hn x hx).2
   simp only [oU, List.length_append]
   omega
  have h5 := H.sp n hn
  simp only [gL, tN, List.length_append, oN, List.length_cons, List.length_nil]
  omega
 have h3 := tO h2
 have h4 := H.ni
 simp only [oO, aAg, uS, iR, List.length_append, oN, List.length_cons, List.length_nil]
 omega
end
section
open Go.Gh
structure eI1 {α : Type} (a b : α) : Prop where
 h : a = b := by (simp only [fG, yY, aAG, aCA, aCB, aCC, cY, gev, ofV, aT, fH, aE, aI, upd, yes, aCl, jI, nT, zK, zJ, kA, mX, uE, oW, lB, splice, aAj, jU, hM, eE, eS, nP, mY, dY, kB, eT, jF, aAk, kM, iI, zL, nQ, zM, nR, cO, eU, eV, eL, iJ, dZ, fM, eF, Option.getD_none, Option.getD_some, gM, eG, gN, jH, fN, pQ, eA, iS, mkAgg, mkFn, mkIface, mkTuple, sT, G.cells, good, cR, bB, G.one, P.one, tC, bF, bN, fV, bR, oA, eD, dK, toP, hE, P.size, P.cells, List.map_cons, List.map_nil, List.take_succ_cons, List.take_zero, List.drop_succ_cons, List.drop_zero, List.take_nil, List.drop_nil, List.cons_append, List.nil_append, List.append_nil, List.length_cons, List.length_nil, List.getElem?_cons_zero, List.getElem?_cons_succ, List.getElem?_nil, List.set_cons_zero, List.set_cons_succ, List.flatMap_cons, List.flatMap_nil, List.getElem?_toArray, List.getElem?_map, List.length_map, Option.map_some, Option.map_none, Nat.mul_one, List.length_set, kG, gT, Nat.reduceEqDiff, Nat.reduceAdd, Nat.reduceMul, Nat.reduceSub, Nat.reduceLeDiff, Nat.add_zero, Nat.zero_add, Int.toNat_natCast, Int.reduceToNat, reduceIte, reduceCtorEq, eq_self, if_true, if_false, and_true, true_and, true_or, or_true, or_false, false_or, Bool.false_eq_true, ne_eq, not_true_eq_false, not_false_eq_true, cond_true, cond_false, Bool.and_true, Bool.true_and, Bool.and_false, Bool.false_and, Bool.or_true, Bool.true_or, Bool.or_false, Bool.false_or, Bool.not_true, Bool.not_false, zQ, oS, wM, zR, zS, rN, rO, jX, rP, rQ, rR, rS, rT, rU, rV, rW, rX, rY, rZ, sA, sB, sC, sD, sE, sF, sG, sH, sI, sJ, sK, sL, sM, lE, lF, lG, lH, lI, lJ, lK, lL, lM, lN, lO, lP, lQ, lR, lS, lT, lU, lV, lW, lX, lY, lZ, mA, mB, mC, mD, mE, mF, mG, mH, mJ, mL, mM, mN, mO, mQ, mR] <;> rfl)
structure eI2 {α : Type} (a b : α) : Prop where
 h : a = b := by (simp only [eX, dP, iC, dD, bM, bY, kE, pB, dU, G.idl, G.idls, cL, List.nil_append, List.append_nil, List.cons_append, aE, aI, Nat.reduceEqDiff, reduceIte, List.mem_cons, List.not_mem_nil, or_false, or_true, true_or, false_or, List.filter_cons, List.filter_nil, ne_eq, not_true_eq_false, not_false_eq_true, decide_true, decide_false, Bool.false_eq_true, List.all_cons, List.all_nil, Bool.and_true] <;> rfl)
variable {E : Env Tryz.prog} {C : Cx E} {r : Option Nat} {ops : Array Oper} {Q : GE → Sg E → Prop} {rest lst : List Oper} {l : List (Nat × G)} {m : List (Nat × Ob)} {A : E.α} {df : List GD} {g : G}
theorem fk1 (I : List Nat) {fn : Func} {R : cK E → Prop} {d d' : Prop} {v : P} {m' : List (Nat × Ob)} {x1 : ResultVar} (hR : R (.ok (.p v) (aG m') A)) (hrs : fn.results.toList = [x1] := by rfl) (hg : fG Tryz.prog (aG m) (bA l) [x1] = some (d, g) := by exact eI1.h {}) (hp : toP (aG m) g = some (d', v) := by (simp only [toP, hE, aE, aI, Nat.reduceEqDiff, reduceIte, and_true, true_and] <;> rfl)) (hm : bY I m = m' := by exact eI2.h {}) (h3 : dU (bM m I) I = true := by exact eI2.h {}) (hne : ∀ i ∈ I, aG m i ≠ .none := by simp [aE, aI]) (hd : d := by simp) (hd' : d' := by simp) : Fin Tryz.prog fn R (sg l m A []) := aIM (by rw [hrs]; exact hg) hd hp hd' hm h3 hne hR
end
section
open Go.Gh
variable {E : Env Tryz.prog} {A : E.α}
structure aDb (c : Prop) : Prop where
 h : c := by (first | exact True.intro | omega | (simp only [inI]; omega) | ((repeat' apply And.intro) <;> (first | trivial | omega | (simp only [bU, List.length_cons]; omega) | exact dQ _ | exact dQ (_ :: _) | (simp only [inI]; omega)); done) | (have := dQ; simp [P.size, bU, inI] <;> first | omega | exact this _ | exact ⟨this _, by omega⟩ | assumption | grind))
theorem aNr {x y : UInt8} : ((x.toNat : Int) = y.toNat) ↔ x = y := ⟨fun h => UInt8.toNat_inj.1 (by omega), fun h => by rw [h]⟩
theorem aHq {a b : List UInt8} {k : Nat} {x y : UInt8} (ha : a[k]? = some x) (hb : b[k]? = some y) (h : a.take k = b.take k) (e : x = y) : a.take (k + 1) = b.take (k + 1) := by rw [List.take_add_one, List.take_add_one, ha, hb, h, e]
theorem aGo : aJ Tryz.prog 77 := aJ.mk Tryz.func77 (by kernel_rfl) rfl
theorem aAh (a b : List UInt8) (h : a.length ≤ 900000) : bZ Tryz.prog 77 [.list (u8s a), .list (u8s b)] (.ok (.bool (decide (a = b)))) := by
 refine bS Tryz.func77 (rfl : Tryz.f77.body = some _) rfl ?_
 intro E A C hN hL
 replace hN : C.N = 26 := hN
 simp only [Gh.num, List.map_cons, List.map_nil, Nat.reduceAdd]
 have hul : ∀ l : List UInt8, (u8s l).length = l.length := bU
 repeat apply aA
 apply aB
 refine v0 ?_
 apply aC
 refine cl [0, 1] ?_
 repeat apply aA
 apply aB
 iterate 5 refine v0 ?_
 apply aC
 repeat apply aA
 refine cB (k1 := fun hb1 => ?_) (k0 := fun hb1 => ?_)
 ·replace hb1 := hB.h {} hb1
  try rw [eqI] at hb1
  repeat apply aA
  apply aB
  refine v0 ?_
  apply aC
  repeat apply aA
  refine aL ?_
  repeat (first | refine aH ?_ | refine aF ?_ | refine aD ?_)
  refine aM ?_
  refine fp ?_
  simp only [dS.at, cK.ok.injEq, G.p.injEq, P.bool.injEq, true_and, and_true]
  first
  | (
    have h : ¬ a = b := fun e => by have h2 := congrArg List.length e; omega
    rw [decide_eq_false h]; done)
  | (
    obtain rfl : k = a.length := by omega
    have h : a = b := by have h2 := htk; rw [List.take_length, show a.length = b.length by omega, List.take_length] at h2; exact h2
    rw [decide_eq_true h]; done)
  | (
    have h : ¬ a = b := fun e => by subst e; rw [hx] at hy; cases hy; omega
    rw [decide_eq_false h]; done)
 ·replace hb1 := hB.h {} hb1
  try rw [eqI] at hb1
  repeat apply aA
  refine aR ?_
  refine cl [0, 1] ?_
  repeat apply aA
  apply aB
  iterate 3 refine v0 ?_
  apply aC
  refine cl [0, 1, 12, 13] ?_
  repeat apply aA
  refine aP ?_
  repeat apply aA
  refine cI (fun mz σ => ∃ k : Nat, (k ≤ a.length) ∧ (a.length ≤ b.length ∧ b.length ≤ a.length) ∧ (a.take k = b.take k) ∧ mz = a.length - k ∧ σ = (sg [(0, .p (.list (u8s a))), (1, .p (.list (u8s b))), (12, .p (.int .i64 (a.length : Nat))), (13, .p (.int .i64 (k : Nat)))] [] A [] : Sg E)) ?_ (fun mz σ hI => ?_)
  ·refine gA [0, 1, 12, 13] ?_
   exact ⟨_, 0, by omega, ⟨by omega, by omega⟩, by simp, rfl, rfl⟩
  obtain ⟨k, hk, hab, htk, hnn, rfl⟩ := hI
  repeat apply aA
  apply aB
  refine v0 ?_
  apply aC
  repeat apply aA
  refine cB (k1 := fun hb2 => ?_) (k0 := fun hb2 => ?_)
  ·replace hb2 := hB.h {} hb2
   try rw [eqI] at hb2
   repeat apply aA
   refine aR ?_
   refine cl [0, 1, 12, 13] ?_
   repeat apply aA
   refine aP ?_
   repeat apply aA
   apply aB
   iterate 2 refine v0 ?_
   apply aC
   refine cl [0, 1, 5, 12, 13] ?_
   repeat apply aA
   obtain ⟨hab1, hab2⟩ := hab
   obtain ⟨x, hx⟩ := fQ (l := a) (k := k) (by omega)
   obtain ⟨y, hy⟩ := fQ (l := b) (k := k) (by omega)
   have hxa := aC7 hx
   have hyb := aC7 hy
   refine rd ?_
   refine d0 0 ?_
   refine d0 1 ?_
   refine d1 2 (hc := aDb.h {}) ?_
   refine d0 3 ?_
   refine d0 4 ?_
   refine d0 5 ?_
   refine d1 6 (hc := aDb.h {}) ?_
   refine d0 7 ?_
   refine d0 8 ?_
   refine dz 9 [0, 0, 3, 7, 0, 0, 48, 112, 255] ?_
   refine de 9 ?_
   repeat apply aA
   refine cB (k1 := fun hb3 => ?_) (k0 := fun hb3 => ?_)
   ·replace hb3 := hB.h {} hb3
    try rw [eqI] at hb3
    repeat apply aA
    apply aB
    refine v0 ?_
    apply aC
    repeat apply aA
    refine aL ?_
    repeat (first | refine aH ?_ | refine aF ?_ | refine aD ?_)
    refine aM ?_
    refine fp ?_
    simp only [dS.at, cK.ok.injEq, G.p.injEq, P.bool.injEq, true_and, and_true]
    first
    | (
      have h : ¬ a = b := fun e => by have h2 := congrArg List.length e; omega
      rw [decide_eq_false h]; done)
    | (
      obtain rfl : k = a.length := by omega
      have h : a = b := by have h2 := htk; rw [List.take_length, show a.length = b.length by omega, List.take_length] at h2; exact h2
      rw [decide_eq_true h]; done)
    | (
      have h : ¬ a = b := fun e => by subst e; rw [hx] at hy; cases hy; omega
      rw [decide_eq_false h]; done)
   ·replace hb3 := hB.h {} hb3
    try rw [eqI] at hb3
    repeat apply aA
    refine aR ?_
    refine cl [0, 1, 12, 13] ?_
    repeat apply aA
    apply aB
    refine v1 (hc := aDb.h {}) ?_
    refine v0 ?_
    apply aC
    refine eC [0, 1, 12, 13] (h := ?_) (hV := ?_) (n' := a.length - (k + 1))
    ·omega
    exact ⟨k + 1, by omega, ⟨hab1, hab2⟩, aHq hx hy htk (aNr.1 (by first | assumption | omega)), rfl, rfl⟩
  ·replace hb2 := hB.h {} hb2
   try rw [eqI] at hb2
   repeat apply aA
   refine bV ?_
   repeat (first | refine bH ?_ | refine aY ?_ | refine bC ?_ | refine bI rfl ?_)
   refine cl [] ?_
   repeat apply aA
   apply aB
   refine v0 ?_
   apply aC
   repeat apply aA
   refine aL ?_
   repeat (first | refine aH ?_ | refine aF ?_ | refine aD ?_)
   refine aM ?_
   refine fp ?_
   simp only [dS.at, cK.ok.injEq, G.p.injEq, P.bool.injEq, true_and, and_true]
   first
   | (
     have h : ¬ a = b := fun e => by have h2 := congrArg List.length e; omega
     rw [decide_eq_false h]; done)
   | (
     obtain rfl : k = a.length := by omega
     have h : a = b := by have h2 := htk; rw [List.take_length, show a.length = b.length by omega, List.take_length] at h2; exact h2
     rw [decide_eq_true h]; done)
   | (
     have h : ¬ a = b := fun e => by subst e; rw [hx] at hy; cases hy; omega
     rw [decide_eq_false h]; done)
theorem aLI : aJ Tryz.prog 76 := aJ.mk Tryz.func76 (by kernel_rfl) rfl
theorem aGp (l : List UInt8) (h : l.length ≤ 900000) : Gh.bE E 76 [.p (.list (u8s l))] (aG []) A (fun y => y = .ok (.own 5000 l.length) (aG [(5000, .arr 5 1 (u8s l) false)]) A) := by
 refine spX 8 Tryz.func76 rfl ?_
 intro C hN hL
 simp only [Gh.num, List.map_cons, List.map_nil, Nat.reduceAdd]
 have hul : ∀ l : List UInt8, (u8s l).length = l.length := bU
 repeat apply aA
 apply aB
 refine v0 ?_
 apply aC
 refine cl [0] ?_
 repeat apply aA
 apply aB
 refine v0 ?_
 refine nq0 (k := fun bq hq => ?_)
 apply aC
 repeat apply aA
 refine cB (k1 := fun hb1 => ?_) (k0 := fun hb1 => ?_)
 ·replace hb1 := hB.h {} hb1
  repeat apply aA
  obtain rfl : l = [] := by have := hq hb1; cases l with | nil => rfl | cons a l => cases this
  apply aB
  refine v0 ?_
  apply aC
  repeat apply aA
  refine xV 2 5000 5 1 false (by simp only [aT, Nat.reduceEqDiff, reduceIte]) (by simp only [aE, aI, Nat.reduceEqDiff, reduceIte]) (by omega) ?_
  repeat apply aA
  refine aL ?_
  repeat (first | refine aH ?_ | refine aF ?_ | refine aD ?_)
  refine aM ?_
  refine fh [5000] ?_
  first | rfl | (simp [u8s]; done)
 ·replace hb1 := hB.h {} hb1
  repeat apply aA
  refine aR ?_
  refine cl [0] ?_
  repeat apply aA
  apply aB
  refine n1 5000 true (hc := aDb.h {}) ?_
  refine v0 ?_
  refine n1 170 false (hc := aDb.h {}) ?_
  refine v0 ?_
  apply aC
  repeat apply aA
  refine aL ?_
  repeat (first | refine aH ?_ | refine aF ?_ | refine aD ?_)
  refine aM ?_
  refine fh [5000] ?_
  first | rfl | (simp [u8s]; done)
theorem nA : aJ Tryz.prog 78 := aJ.mk Tryz.func78 (by kernel_rfl) rfl
theorem oR (b : UInt8) (l : List UInt8) : Gh.bE E 78 [.ref 0 0] (aG [(0, .cells [.p (.list (u8s (b :: l)))] 0)]) A (fun y => y = .ok (.p (.int .i64 (b.toNat : Nat))) (aG [(0, .cells [.p (.list (u8s l))] 0)]) A) := by
 refine spX 14 Tryz.func78 rfl ?_
 intro C hN hL
 simp only [Gh.num, List.map_cons, List.map_nil, Nat.reduceAdd]
 have hb8 := UInt8.toNat_lt b
 have hul : ∀ l : List UInt8, (u8s l).length = l.length := bU
 have hub : u8s (b :: l) = .int .u8 (b.toNat : Nat) :: u8s l := rfl
 repeat apply aA
 apply aB
 refine v0 ?_
 apply aC
 refine cl [0] ?_
 repeat apply aA
 apply aB
 iterate 3 refine v0 ?_
 refine rb 5 true (h := by (first | rfl | exact decide_eq_true (by simp) | exact decide_eq_true (by omega) | simp | (simp; omega))) ?_
 refine pc0 (spec := bG _) (hent := bX) ?_
 apply aC
 refine cl [0] ?_
 repeat apply aA
 apply aB
 refine v0 ?_
 refine v1 (hc := aDb.h {}) ?_
 refine v0 ?_
 refine v1 (hc := aDb.h {}) ?_
 refine v0 ?_
 apply aC
 refine cl [0, 2] ?_
 repeat apply aA
 apply aB
 refine v0 ?_
 refine v1 (hc := aDb.h {}) ?_
 refine s1 (hc := aDb.h {}) ?_
 apply aC
 refine cl [0, 2] ?_
 repeat apply aA
 apply aB
 iterate 2 refine v0 ?_
 apply aC
 repeat apply aA
 refine aL ?_
 repeat (first | refine aH ?_ | refine aF ?_ | refine aD ?_)
 refine aM ?_
 refine fh [0] ?_
 simp [List.take_of_length_le, bU]
theorem aBj  : Gh.bE E 78 [.ref 0 0] (aG [(0, .cells [.p (.list (u8s []))] 0)]) A (fun y => y = .panic (.iface 218 (.agg [.int .i64 8])) (aG [(0, .cells [.p (.list (u8s []))] 0)]) A) := by
 refine spX 14 Tryz.func78 rfl ?_
 intro C hN hL
 simp only [Gh.num, List.map_cons, List.map_nil, Nat.reduceAdd]
 have hul : ∀ l : List UInt8, (u8s l).length = l.length := bU
 repeat apply aA
 apply aB
 refine v0 ?_
 apply aC
 refine cl [0] ?_
 repeat apply aA
 apply aB
 iterate 3 refine v0 ?_
 refine rb 5 false (h := by (first | rfl | simp [u8s])) ?_
 refine pp0 (spec := dE _) (hent := bX) ?_
 repeat (first | refine aO ?_ | refine aN ?_ | refine aW ?_)
 refine fph [0] ?_
 rfl
end
end Go.Proofs.YtecmhhpccmaeiaaGreatDoor
