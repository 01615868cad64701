/- What functions of the program return, each for every input that its theorem names. Made small by a program of ours. -/
import Derived.Test.YtecmhhpccmaeiaaGreatDoorC4
set_option linter.unusedVariables false
set_option linter.unusedSimpArgs false
set_option maxRecDepth 100000
set_option maxHeartbeats 4000000
namespace Go.Proofs.YtecmhhpccmaeiaaGreatDoor
section
open Go.Gh
variable {E : Env Tryz.prog} {A : E.α}
structure yO (c : Prop) : Prop where
 h : c := by (first | exact True.intro | omega | (simp only [inI]; omega) | (simp [jG, cX, eU]; done) | (simp only [inI]; omega) | (simp [P.size, bR, bF, bN, bB, cR, good, G.one, P.one, P.cells] <;> first | omega | assumption | simp_all))
structure aNC (c : Prop) : Prop where
 h : c := by (first | exact True.intro | omega | (simp only [inI]; omega) | (simp [P.size, bR, bF, bN, bB, cR, good, G.one, P.one, P.cells] <;> first | omega | assumption | simp_all))
structure tQ (c : Prop) : Prop where
 h : c := by (first | exact True.intro | omega | (simp only [inI]; omega) | (simp [jG, cX, eU, gZ, yP]; done) | (simp only [inI]; omega) | (simp [P.size, bR, bF, bN, bB, cR, good, G.one, P.one, P.cells] <;> first | omega | assumption | simp_all))
theorem aPc : Tryz.prog.underlying 9 = some .string := by kernel_rfl
theorem aLl (d : Nat) (a c : Str) : geq Tryz.prog (d + 1) 9 (.str a) (.str c) = some (decide (a = c)) := by
 unfold geq
 rw [aPc]
theorem cX (a c : Str) : geq Tryz.prog 6 9 (.str a) (.str c) = some (decide (a = c)) := aLl 5 a c
def mW : List (P × P) := [(.str [112, 108, 97, 116, 101], .fn (.func 113) [] []), (.str [115, 116, 97, 114], .fn (.func 114) [] [])]
theorem aLL : aJ Tryz.prog 58 := aJ.mk Tryz.func58 (by kernel_rfl) rfl
theorem aEx  : Gh.bE E 58 [] (aG []) A (fun y => y = .ok (.agg [.p (.fn (.func 112) [] []), .map 110, .p (.fn (.func 115) [] [])]) (aG [(110, .map mW)]) A) := by
 refine spX 4 Tryz.func58 rfl ?_
 intro C hN hL
 simp only [Gh.num, List.map_cons, List.map_nil, Nat.reduceAdd]
 repeat apply aA
 apply aB
 refine n1 100 false (hc := yO.h {}) ?_
 apply aC
 refine cl [0] ?_
 repeat apply aA
 apply aB
 refine n1 110 false (hc := yO.h {}) ?_
 iterate 2 refine s1 (hc := yO.h {}) ?_
 iterate 2 refine v0 ?_
 refine s1 (hc := yO.h {}) ?_
 apply aC
 repeat apply aA
 refine aL ?_
 repeat (first | refine aH ?_ | refine aF ?_ | refine aD ?_)
 refine aM ?_
 refine fh [110] ?_
 simp [eU, cX, mW]
def kJ : List (P × P) := [(.str [99, 104, 97, 105, 110], .fn (.func 121) [] [.ptr [.fn (.func 118) [] []]]), (.str [107, 110, 111, 119, 115], .fn (.func 122) [] [.ptr [.fn (.func 118) [] []]]), (.str [108, 111, 97, 110], .fn (.func 123) [] [.ptr [.fn (.func 118) [] []]])]
theorem aOs : aJ Tryz.prog 18 := aJ.mk Tryz.func18 (by kernel_rfl) rfl
theorem aFG (b : Plt) (hv : b.valid = true)  : bZ Tryz.prog 18 [nF b] (.ok (.tuple [.str (txt (iA b)), .int .i64 0])) := by
 refine bS Tryz.func18 (rfl : Tryz.f18.body = some _) rfl ?_
 intro E A C hN hL
 replace hN : C.N = 9 := hN
 simp only [Gh.num, List.map_cons, List.map_nil, Nat.reduceAdd]
 unfold nF
 repeat apply aA
 apply aB
 refine n1 110 false (hc := aNC.h {}) ?_
 iterate 2 refine v0 ?_
 apply aC
 refine cl [1] ?_
 repeat apply aA
 refine rd ?_
 refine d0 0 ?_
 refine eO 1 [(110, 1500)] [] [] none (spec := aEx) (hent := aLL) ?_
 refine eO 2 [(0, 1500)] [] [0, 0] none (spec := qZ b hv mW) (hent := aGc) ?_
 refine d0 3 ?_
 refine d0 4 ?_
 refine d0 5 ?_
 refine d0 6 ?_
 refine dz 7 [0, 0, 3, 7, 7, 31, 63] ?_
 refine de 7 ?_
 repeat apply aA
 refine aL ?_
 repeat (first | refine aH ?_ | refine aF ?_ | refine aD ?_)
 refine aM ?_
 refine fp2 ?_
 rfl
theorem aLM : aJ Tryz.prog 63 := aJ.mk Tryz.func63 (by kernel_rfl) rfl
theorem aEy  : Gh.bE E 63 [] (aG []) A (fun y => y = .ok (.agg [.p (.fn (.func 120) [] []), .map 120, .p (.fn (.func 124) [] [])]) (aG [(120, .map kJ)]) A) := by
 refine spX 8 Tryz.func63 rfl ?_
 intro C hN hL
 simp only [Gh.num, List.map_cons, List.map_nil, Nat.reduceAdd]
 repeat apply aA
 apply aB
 refine n1 100 false (hc := yO.h {}) ?_
 apply aC
 refine cl [0] ?_
 repeat apply aA
 apply aB
 refine n1 110 false (hc := yO.h {}) ?_
 refine s1 (hc := yO.h {}) ?_
 apply aC
 refine cl [0, 1] ?_
 repeat apply aA
 refine fz 110 1 [.k] ?_
 apply aB
 refine n1 120 false (hc := yO.h {}) ?_
 refine v0 ?_
 first | (refine ocv 5 (.f [.n [.k]]) (k := ?_); refine ocv 5 .q (hc := by simp [bB, G.one, P.one, jE]) (k := ?_)) | (refine ocv 4 (.f [.n [.k]]) (k := ?_); refine ocv 4 .q (hc := by simp [bB, G.one, P.one, jE]) (k := ?_)) | (refine ocv 3 (.f [.n [.k]]) (k := ?_); refine ocv 3 .q (hc := by simp [bB, G.one, P.one, jE]) (k := ?_))
 refine s1 (hc := yO.h {}) ?_
 refine v0 ?_
 first | (refine ocv 5 (.f [.n [.k]]) (k := ?_); refine ocv 5 .q (hc := by simp [bB, G.one, P.one, jE]) (k := ?_)) | (refine ocv 4 (.f [.n [.k]]) (k := ?_); refine ocv 4 .q (hc := by simp [bB, G.one, P.one, jE]) (k := ?_)) | (refine ocv 3 (.f [.n [.k]]) (k := ?_); refine ocv 3 .q (hc := by simp [bB, G.one, P.one, jE]) (k := ?_))
 refine s1 (hc := yO.h {}) ?_
 refine v0 ?_
 first | (refine ocv 5 (.f [.n [.k]]) (k := ?_); refine ocv 5 .q (hc := by simp [bB, G.one, P.one, jE]) (k := ?_)) | (refine ocv 4 (.f [.n [.k]]) (k := ?_); refine ocv 4 .q (hc := by simp [bB, G.one, P.one, jE]) (k := ?_)) | (refine ocv 3 (.f [.n [.k]]) (k := ?_); refine ocv 3 .q (hc := by simp [bB, G.one, P.one, jE]) (k := ?_))
 refine s1 (hc := yO.h {}) ?_
 iterate 2 refine v0 ?_
 refine s1 (hc := yO.h {}) ?_
 apply aC
 repeat apply aA
 refine aL ?_
 repeat (first | refine aH ?_ | refine aF ?_ | refine aD ?_)
 refine aM ?_
 refine fh [120] ?_
 simp [eU, cX, kJ]
theorem aOt : aJ Tryz.prog 24 := aJ.mk Tryz.func24 (by kernel_rfl) rfl
theorem aFH (b : Chn) (hv : b.valid = true)  : bZ Tryz.prog 24 [nG b] (.ok (.tuple [.str (txt (gW b)), .int .i64 0])) := by
 refine bS Tryz.func24 (rfl : Tryz.f24.body = some _) rfl ?_
 intro E A C hN hL
 replace hN : C.N = 9 := hN
 simp only [Gh.num, List.map_cons, List.map_nil, Nat.reduceAdd]
 unfold nG
 repeat apply aA
 apply aB
 refine n1 110 false (hc := aNC.h {}) ?_
 iterate 2 refine v0 ?_
 apply aC
 refine cl [1] ?_
 repeat apply aA
 refine rd ?_
 refine d0 0 ?_
 refine eO 1 [(120, 1500)] [] [] none (spec := aEy) (hent := aLM) ?_
 refine eO 2 [(0, 1500)] [] [0, 0] none (spec := rA b hv kJ) (hent := aGd) ?_
 refine d0 3 ?_
 refine d0 4 ?_
 refine d0 5 ?_
 refine d0 6 ?_
 refine dz 7 [0, 0, 3, 7, 7, 31, 63] ?_
 refine de 7 ?_
 repeat apply aA
 refine aL ?_
 repeat (first | refine aH ?_ | refine aF ?_ | refine aD ?_)
 refine aM ?_
 refine fp2 ?_
 rfl
def yP : Nat → List (P × P)
 | 0 => []
 | 1 => [(.str [112, 108, 97, 105, 110], .fn (.func 103) [] [.ptr [.int .i64 0]])]
 | _ => [(.str [112, 108, 97, 105, 110], .fn (.func 103) [] [.ptr [.int .i64 0]]), (.str [114, 101, 118, 101, 114, 115, 101, 100], .fn (.func 103) [] [.ptr [.int .i64 1]])]
def gZ (k : Nat) : List (P × P) := [(.str [109, 101, 97, 115, 117, 114, 101], .fn (.func 98) [] []), (.str [116, 117, 114, 110], .fn (.func 101) [] [])] ++ yP k
theorem aJ4 : aJ Tryz.prog 50 := aJ.mk Tryz.func50 (by kernel_rfl) rfl
theorem vP  : Gh.bE E 50 [] (aG []) A (fun y => y = .ok (.agg [.p (.fn (.func 95) [] []), .map 140, .p (.fn (.func 102) [] [])]) (aG [(140, .map (gZ 2))]) A) := by
 refine spX 18 Tryz.func50 rfl ?_
 intro C hN hL
 simp only [Gh.num, List.map_cons, List.map_nil, Nat.reduceAdd]
 repeat apply aA
 apply aB
 refine n1 100 false (hc := tQ.h {}) ?_
 apply aC
 refine cl [0] ?_
 repeat apply aA
 apply aB
 refine n1 140 false (hc := tQ.h {}) ?_
 iterate 2 refine s1 (hc := tQ.h {}) ?_
 iterate 2 refine v0 ?_
 refine n1 110 false (hc := tQ.h {}) ?_
 refine s1 (hc := tQ.h {}) ?_
 apply aC
 refine cl [0, 1] ?_
 repeat apply aA
 apply aB
 refine pc0 (spec := aFi) (hent := aJb) ?_
 refine v0 ?_
 apply aC
 refine cl [0, 1, 7, 8] ?_
 repeat apply aA
 refine aP ?_
 repeat apply aA
 refine cI (fun mz σ => ∃ k : Nat, (k ≤ 2) ∧ mz = 2 - k ∧ σ = (sg [(0, .ref 100 0), (1, .ref 110 0), (7, .p (.agg [.str [112, 108, 97, 105, 110], .str [114, 101, 118, 101, 114, 115, 101, 100]])), (8, .p (.int .i64 (k : Nat)))] [(100, .cells [.p .nilfn, .p .nilmap, .p .nilfn] 0), (110, .cells [.p (.fn (.func 95) [] []), .map 140, .p (.fn (.func 102) [] [])] 0), (140, .map (gZ k))] A [] : Sg E)) ?_ (fun mz σ hI => ?_)
 ·refine gA [0, 1, 7, 8] ?_
  exact ⟨_, 0, by omega, rfl, sgE (by simp) (by simp [eU, cX, gZ, yP])⟩
 obtain ⟨k, hk, hnn, rfl⟩ := hI
 repeat apply aA
 apply aB
 refine v0 ?_
 apply aC
 repeat apply aA
 refine cB (k1 := fun hb1 => ?_) (k0 := fun hb1 => ?_)
 ·replace hb1 := hB.h {} hb1
  repeat apply aA
  refine aR ?_
  refine cl [0, 1, 7, 8] ?_
  repeat apply aA
  refine aP ?_
  repeat apply aA
  obtain rfl | rfl : k = 0 ∨ k = 1 := by omega
  ·repeat apply aA
   apply aB
   refine v0 ?_
   refine v1 (hc := tQ.h {}) ?_
   refine n1 120 false (hc := tQ.h {}) ?_
   refine s1 (hc := tQ.h {}) ?_
   refine v0 ?_
   apply aC
   refine cl [0, 1, 2, 3, 7, 8] ?_
   repeat apply aA
   refine fz 120 1 [.k] ?_
   apply aB
   iterate 4 refine v0 ?_
   refine ocv 15 (.f [.n [.k]]) (k := ?_)
   refine ocv 15 .q (hc := by simp [bB, G.one, P.one, jE]) (k := ?_)
   refine s1 (hc := tQ.h {}) ?_
   apply aC
   refine cl [0, 1, 7, 8] ?_
   repeat apply aA
   apply aB
   refine v1 (hc := tQ.h {}) ?_
   refine v0 ?_
   apply aC
   refine eC [0, 1, 7, 8] (h := ?_) (hV := ?_) (n' := mz - 1)
   ·omega
   first
   | exact ⟨0 + 1, by omega, by omega, sgE rfl (by simp [eU, cX, gZ, yP])⟩
   | exact ⟨1 + 1, by omega, by omega, sgE rfl (by simp [eU, cX, gZ, yP])⟩
  ·repeat apply aA
   apply aB
   refine v0 ?_
   refine v1 (hc := tQ.h {}) ?_
   refine n1 120 false (hc := tQ.h {}) ?_
   refine s1 (hc := tQ.h {}) ?_
   refine v0 ?_
   apply aC
   refine cl [0, 1, 2, 3, 7, 8] ?_
   repeat apply aA
   refine fz 120 1 [.k] ?_
   apply aB
   iterate 4 refine v0 ?_
   refine ocv 15 (.f [.n [.k]]) (k := ?_)
   refine ocv 15 .q (hc := by simp [bB, G.one, P.one, jE]) (k := ?_)
   refine s1 (hc := tQ.h {}) ?_
   apply aC
   refine cl [0, 1, 7, 8] ?_
   repeat apply aA
   apply aB
   refine v1 (hc := tQ.h {}) ?_
   refine v0 ?_
   apply aC
   refine eC [0, 1, 7, 8] (h := ?_) (hV := ?_) (n' := mz - 1)
   ·omega
   first
   | exact ⟨0 + 1, by omega, by omega, sgE rfl (by simp [eU, cX, gZ, yP])⟩
   | exact ⟨1 + 1, by omega, by omega, sgE rfl (by simp [eU, cX, gZ, yP])⟩
 ·replace hb1 := hB.h {} hb1
  repeat apply aA
  refine bV ?_
  repeat (first | refine bH ?_ | refine aY ?_ | refine bC ?_ | refine bI rfl ?_)
  refine cl [0, 1] ?_
  repeat apply aA
  obtain rfl : k = 2 := by omega
  apply aB
  refine v0 ?_
  refine s1 (hc := tQ.h {}) ?_
  apply aC
  repeat apply aA
  refine aL ?_
  repeat (first | refine aH ?_ | refine aF ?_ | refine aD ?_)
  refine aM ?_
  refine fh [140] ?_
  rfl
theorem aOu : aJ Tryz.prog 14 := aJ.mk Tryz.func14 (by kernel_rfl) rfl
theorem aFI (b : Msr) (hv : b.valid = true)  : bZ Tryz.prog 14 [jT b] (.ok (.tuple [.str (txt (gK b)), .int .i64 0])) := by
 refine bS Tryz.func14 (rfl : Tryz.f14.body = some _) rfl ?_
 intro E A C hN hL
 replace hN : C.N = 9 := hN
 simp only [Gh.num, List.map_cons, List.map_nil, Nat.reduceAdd]
 unfold jT
 repeat apply aA
 apply aB
 refine n1 110 false (hc := aNC.h {}) ?_
 iterate 2 refine v0 ?_
 apply aC
 refine cl [1] ?_
 repeat apply aA
 refine rd ?_
 refine d0 0 ?_
 refine eO 1 [(140, 1500)] [] [] none (spec := vP) (hent := aJ4) ?_
 refine eO 2 [(0, 1500)] [] [0, 0] none (spec := rB b hv (gZ 2)) (hent := aGe) ?_
 refine d0 3 ?_
 refine d0 4 ?_
 refine d0 5 ?_
 refine d0 6 ?_
 refine dz 7 [0, 0, 3, 7, 7, 31, 63] ?_
 refine de 7 ?_
 repeat apply aA
 refine aL ?_
 repeat (first | refine aH ?_ | refine aF ?_ | refine aD ?_)
 refine aM ?_
 refine fp2 ?_
 rfl
end
section
open Go.Gh
structure eM1 {α : Type} (a b : α) : Prop where
 h : a = b := by (simp only [zQ, oS, wM, zR, zS, rN, rO, jX, rP, rQ, rR, rS, rT, rU, rV, rW, rX, rY, rZ, sA, sB, sC, sD, sE, sF, sG, sH, sI, sJ, sK, sL, sM, lE, lF, lG, lH, lI, lJ, lK, lL, lM, lN, lO, lP, lQ, lR, lS, lT, lU, lV, lW, lX, lY, lZ, mA, mB, mC, mD, mE, mF, mG, mH, mJ, mL, mM, mN, mO, mQ, mR] <;> rfl)
variable {E : Env Tryz.prog} {C : Cx E} {r : Option Nat} {ops : Array Oper} {Q : GE → Sg E → Prop} {rest lst : List Oper} {l l' : List (Nat × G)} {m : List (Nat × Ob)} {A : E.α} {df : List GD}
variable {t : Nat} {op : Op} {ty : TypeId} {pos : String} {af : Array Edge} {c : Prop} {g : G} {ob : Ob} {i j : Nat}
variable {lo : Nat} {σ0 : Sg E} {ids ids' : List (List Nat × List Nat)} {I : List Nat}
theorem aJ5 {mt kt vt : TypeId} {x k0 : Operand} {ok : Bool} {iid : Nat} {kp : P} {es : List (P × P)} {b : Bool} {ii z : TI} {o : Oper} (ho : o.op = .lookup mt x k0 ok) (hw : dM ops (bA l) o = some true) (hti : ti Tryz.prog mt = some ii) (hd : ii.desc = .map kt vt) (hz : ti Tryz.prog vt = some z)
  (hm : gev (bA l) x = .map iid) (hk : gev (bA l) k0 = .p kp) (hh : aG m iid = .map es) (hv : eL (eV z) (cO (geq Tryz.prog 6 kt) kp es) = some (b, g)) (hkk : jG (geq Tryz.prog 6 kt) kp es) (hd0 : aG m 99999 = .none) (ht : ∀ t, o.dst = some t → t < C.N) :
  Eff C r ops o (sg l m A df) [99999, iid] (if ok = true then mkTuple [g, .p (.bool b)] else g) [] :=
 aCr (mu := false) (d := 99999) (I := [iid]) (c := jG (geq Tryz.prog 6 kt) kp es) (out := ⟨if ok = true then mkTuple [g, .p (.bool b)] else g, none⟩) hw (by simp only [ho, cY, hti, hd, hz, iJ, hm, hk, rhp, List.mem_singleton, if_true, hh, hv]) hkk hd0 (by have := C.limOk; omega) (fun p e => by cases e) ht
theorem dl (n : Nat) {mt kt vt : TypeId} {x k0 : Operand} {ok : Bool} {iid : Nat} {kp : P} {es : List (P × P)} {b : Bool} {ii z : TI} {g' : G} (k : eR C r ops (cD C Q) lo σ0 ids' (sg ((t, g') :: l) m A df)) (hn : ids.length = n := by rfl) (ho : ops[lo + n]? = some ⟨some t, .lookup mt x k0 ok, ty, pos, af, none⟩ := by rfl) (hti : ti Tryz.prog mt = some ii := by exact eM1.h {}) (hd : ii.desc = .map kt vt := by rfl) (hz : ti Tryz.prog vt = some z := by exact eM1.h {}) (hm : gev (bA l) x = .map iid := by (simp only [gev, aT, Nat.reduceEqDiff, reduceIte] <;> rfl)) (hk : gev (bA l) k0 = .p kp := by (simp only [gev, aT, Nat.reduceEqDiff, reduceIte] <;> rfl)) (hh : aG m iid = .map es := by (simp only [aE, aI, Nat.reduceEqDiff, reduceIte] <;> rfl)) (hv : eL (eV z) (cO (geq Tryz.prog 6 kt) kp es) = some (b, g)) (hkk : jG (geq Tryz.prog 6 kt) kp es) (hd0 : aG m 99999 = .none := by (simp only [aE, aI, Nat.reduceEqDiff, reduceIte])) (ht : t < C.N := by omega) (hg' : (if ok = true then mkTuple [g, .p (.bool b)] else g) = g' := by rfl) (hids : ids ++ [([99999, iid], [])] = ids' := by (simp only [List.cons_append, List.nil_append] <;> rfl)) : eR C r ops (cD C Q) lo σ0 ids (sg l m A df) := by
 subst hg'
 exact eR.step (pi := []) hn ho (aJ5 (C := C) rfl (bJ rfl) hti hd hz hm hk hh hv hkk hd0 (fun t' e => by cases e; exact ht)) rfl (by rw [hids]; exact k)
end
section
open Go.Gh
variable {E : Env Tryz.prog} {A : E.α}
structure aBC (c : Prop) : Prop where
 h : c := by (first | exact True.intro | omega | (simp only [inI]; omega) | (simp [P.size, bR, bF, bN, bB, cR, good, G.one, P.one, P.cells] <;> first | omega | assumption | simp_all))
theorem kK : ∀ (s : Str), (bQ s).length ≤ s.length
 | [] => Nat.le_refl _
 | b :: l => by
  have ih := kK l
  rw [bQ]
  split
  ·simp; omega
  ·cases e : bQ l with
   | nil => simp
   | cons p ps => rw [e] at ih; simp at ih ⊢; omega
def aND : TI := ⟨.func #[164] #[191] false, 1, 8, [.p .nilfn], false⟩
theorem aLN : eL (eV aND) (cO (geq Tryz.prog 6 9) (.str [112, 108, 97, 116, 101]) mW) = some (true, .p (.fn (.func 113) [] [])) := by simp [mW, cO, cX]; rfl
theorem aLO : eL (eV aND) (cO (geq Tryz.prog 6 9) (.str [115, 116, 97, 114]) mW) = some (true, .p (.fn (.func 114) [] [])) := by simp [mW, cO, cX]; rfl
theorem aOv {w : Str} (h1 : w ≠ [112, 108, 97, 116, 101]) (h2 : w ≠ [115, 116, 97, 114]) : eL (eV aND) (cO (geq Tryz.prog 6 9) (.str w) mW) = some (false, .p .nilfn) := by simp [mW, cO, cX, h1, h2]; rfl
theorem aEz (w : Str) : jG (geq Tryz.prog 6 9) (.str w) mW := by
 simp only [jG, mW, cX, Option.isSome_some, true_and, Option.some.injEq, decide_eq_true_eq]
 intro x hx
 simp only [List.mem_cons, List.not_mem_nil, or_false] at hx
 rcases hx with rfl | rfl <;> simp [cX] <;> exact fun h => h.symm
def rdP (s : Str) : P := match wR s with
 | some p => .tuple [nF p, .int .i64 0]
 | none => .tuple [nF Plt.z, .int .i64 8]
theorem aLP {s : Str} (h : dW gX Plt.z s = none) : rdP s = .tuple [nF Plt.z, .int .i64 8] := by unfold rdP wR; rw [h]
theorem aLQ {s : Str} {p : Plt} (h : dW gX Plt.z s = some p) (h2 : p.valid = false ∨ txt (iA p) ≠ s) : rdP s = .tuple [nF Plt.z, .int .i64 8] := by
 unfold rdP wR
 rw [h]
 rcases h2 with h2 | h2 <;> simp [h2]
theorem aOw {s : Str} {p : Plt} (h : dW gX Plt.z s = some p) (h1 : p.valid = true) (h2 : txt (iA p) = s) : rdP s = .tuple [nF p, .int .i64 0] := by
 unfold rdP wR
 rw [h]
 simp [h1, h2]
theorem fY {α : Type} {step : α → List Str → Option α} {z : α} {s : Str} (hs : Lib.hasSuffix s [10] = true) : dW step z s = run step (bQ s) z := if_pos hs
theorem aDe {α : Type} {step : α → List Str → Option α} {z : α} {s : Str} (hs : Lib.hasSuffix s [10] = false) : dW step z s = none := if_neg (by rw [hs]; exact Bool.false_ne_true)
theorem aNE : iK Tryz.prog 193 "zoneworks/book.put" = some 232 := by kernel_rfl
theorem aNF : iK Tryz.prog 195 "zoneworks/book.put" = some 233 := by kernel_rfl
theorem aHV (z : Plt) (w : Str) (r : List Str) : (w = [112, 108, 97, 116, 101] ∧ ∃ u v, dB r = some (u, v)) ∨ (w = [112, 108, 97, 116, 101] ∧ dB r = none) ∨ (w = [115, 116, 97, 114] ∧ ∃ x, uR r = some x) ∨ (w = [115, 116, 97, 114] ∧ uR r = none) ∨ (w ≠ [112, 108, 97, 116, 101] ∧ w ≠ [115, 116, 97, 114]) := by
 by_cases h1 : w = [112, 108, 97, 116, 101]
 ·cases e : dB r with
  | none => exact .inr (.inl ⟨h1, rfl⟩)
  | some x => exact .inl ⟨h1, x.1, x.2, rfl⟩
 ·by_cases h2 : w = [115, 116, 97, 114]
  ·cases e : uR r with
   | none => exact .inr (.inr (.inr (.inl ⟨h2, rfl⟩)))
   | some x => exact .inr (.inr (.inl ⟨h2, x, rfl⟩))
  ·exact .inr (.inr (.inr (.inr ⟨h1, h2⟩)))
theorem aDf {s : Str} {k : Nat} {x : List Y0} (h : (pls s)[k]? = some x) : ∃ ln, (bQ s)[k]? = some ln ∧ x = [Y0.o [bT (gV ln)]] := by
 rw [pls, List.getElem?_map] at h
 cases e : (bQ s)[k]? with
 | none => rw [e] at h; cases h
 | some ln => rw [e] at h; cases h; exact ⟨ln, rfl, rfl⟩
theorem aOx : aJ Tryz.prog 59 := aJ.mk Tryz.func59 (by kernel_rfl) rfl
theorem aFJ (s : Str) (h : s.length ≤ 4096) (hs : Lib.hasSuffix s [10] = true) : Gh.bE E 59 [.p (.str s), .agg [.p (.fn (.func 112) [] []), .map 0, .p (.fn (.func 115) [] [])]] (aG [(0, .map mW)]) A (fun y => y = .ok (.p (rdP s)) (aG [(0, .map mW)]) A) := by
 refine kW Tryz.func59 (rfl : Tryz.f59.body = some _) (Nat.le_of_ble_eq_true rfl) (fun id h => ?_) (fun j id h => ?_) ?_
 ·exact nD h
 ·exact nE h
 intro C hN hL
 replace hN : C.N = 48 := hN
 simp only [Gh.num, List.map_cons, List.map_nil, Nat.reduceAdd]
 repeat apply aX
 refine bO ?_
 apply aB
 refine n1 130 false (hc := aBC.h {}) ?_
 refine n1 140 false (hc := aBC.h {}) ?_
 refine n1 150 false (hc := aBC.h {}) ?_
 apply aC
 refine xcl [0, 3, 4, 5] ?_
 repeat apply aX
 refine bO ?_
 apply aB
 refine v0 ?_
 refine df0 ?_
 apply aC
 refine xcl [0, 3, 4, 5] ?_
 repeat apply aX
 refine bO ?_
 refine ad 140 2 3000 84 9 false ?_
 apply aB
 iterate 3 refine v0 ?_
 refine rb 14 true (h := by (first | with_reducible rfl | exact decide_eq_true (by omega) | rfl | decide)) ?_
 refine pc0 (spec := bG _) (hent := bX) ?_
 apply aC
 refine xcl [0, 3, 4, 5] ?_
 repeat apply aX
 refine bO ?_
 apply aB
 refine v0 ?_
 refine oc0 [] [] [0] none (spec := iY s) (hent := yA) ?_
 apply aC
 refine xcl [0, 3, 4, 5, 17] ?_
 repeat apply aX
 refine iN ?_
 repeat apply aX
 refine rfY 10000 99001 [18] (fun k (z : Plt) A1 => run gX ((bQ s).take k) Plt.z = some z ∧ z.st.length ≤ k ∧ A1 = A) (fun z => [(130, .cells [.p (.fn (.func 112) [] []), .map 0, .p (.fn (.func 115) [] [])] 0), (140, .cells [.p (.int .i64 z.sc.1), .p (.int .i64 z.sc.2), .own 3000 z.st.length] 0), (150, .cells [.p (.int .i64 0)] 0), (0, .map mW), (3000, .arr 84 9 (z.st.map eJ) false)]) (fun _ (_ : Plt) _ => False) (fun _ _ => []) (fun p (_ : Plt) A1 => p = .iface 218 (.agg [.int .i64 8]) ∧ dW gX Plt.z s = none ∧ A1 = A) (fun _ z => [(130, .cells [.p (.fn (.func 112) [] []), .map 0, .p (.fn (.func 115) [] [])] 0), (140, .cells [.p (.int .i64 z.sc.1), .p (.int .i64 z.sc.2), .own 3000 z.st.length] 0), (150, .cells [.p (.int .i64 0)] 0), (0, .map mW), (3000, .arr 84 9 (z.st.map eJ) false)]) [] [.k] (it := aCU s (by omega) hs) (hent := yB) (xs := pls s) (tail := none) (pan := true) (hlen := fun x hx => by obtain ⟨w, _, rfl⟩ := List.mem_map.1 hx; rfl) (hshp := fun x hx => by obtain ⟨w, _, rfl⟩ := List.mem_map.1 hx; exact .inr ⟨_, rfl⟩) (h0 := ?_) (round := fun k z A1 x hI hx lp bs C1 hN1 hL1 => ?_) (hK := fun e z A1 hK => ?_) (hP := fun p z A1 hP => ?_) (hT := fun p z A1 ht hT => ?_) (hI := fun z A1 ht hI => ?_)
 ·exact ⟨Plt.z, ⟨rfl, Nat.zero_le _, rfl⟩, rfl⟩
 ·obtain ⟨hz, hzl, rfl⟩ := hI
  obtain ⟨ln, hln, rfl⟩ := aDf hx
  have hll : ln.length ≤ 4096 := by have := oG s ln (List.mem_of_getElem? hln); omega
  have hkl : k < (bQ s).length := (List.getElem?_eq_some_iff.1 hln).1
  have hln2 := kK s
  replace hN1 : C1.N = 48 := hN1.trans hN
  refine (?_ : gwp C1 (some lp) _ _ (sg ((18, .ref 95000 0) :: _) [(95000, .cells [.p (bT (gV ln))] 0), (130, .cells [.p (.fn (.func 112) [] []), .map 0, .p (.fn (.func 115) [] [])] 0), (140, .cells [.p (.int .i64 z.sc.1), .p (.int .i64 z.sc.2), .own 3000 z.st.length] 0), (150, .cells [.p (.int .i64 0)] 0), (0, .map mW), (3000, .arr 84 9 (z.st.map eJ) false)] A1 []))
  repeat apply aA
  apply aB
  refine v0 ?_
  apply aC
  refine ⟨rfl, fun bs2 C2 hN2 hL2 hr2 => ?_⟩
  replace hN2 : C2.N = 48 := hN2.trans hN
  refine (?_ : gwp C2 (some lp) _ _ (sg _ _ _ []))
  repeat apply aA
  refine aP ?_
  repeat apply aA
  obtain ⟨w, r, hwr⟩ := aC2 ln
  have hsr : cE r := fun x hx => vL (ln := ln) (by omega) x (by rw [hwr]; exact List.mem_cons_of_mem _ hx)
  rw [hwr]
  rcases aHV z w r with ⟨rfl, u, v, hsp⟩ | ⟨rfl, hsp⟩ | ⟨rfl, x, hsp⟩ | ⟨rfl, hsp⟩ | ⟨hw1, hw2⟩
  ·have hstep : run gX ((bQ s).take (k + 1)) Plt.z = some (({ z with sc := (u, v) } : Plt)) := by rw [iG hz hln, hwr]; simp [gX, hsp]
   repeat apply aA
   refine rd ?_
   refine d0 0 ?_
   refine d0 1 ?_
   refine d0 2 ?_
   refine eO 3 [(0, 95000)] [] [0] none (spec := cN [112, 108, 97, 116, 101] r) (hent := dL) ?_
   refine dl 4 (hv := aLN) (hkk := aEz _) ?_
   refine d0 5 ?_
   refine d0 6 ?_
   refine d0 7 ?_
   refine d0 8 ?_
   refine d0 9 ?_
   refine dz 10 [0, 1, 0, 4, 15, 31, 63, 63, 127, 511] ?_
   refine de 10 ?_
   refine cl [0, 3, 4, 5, 6, 7, 8] ?_
   repeat apply aA
   apply aB
   refine v0 ?_
   refine pc0 (spec := bG _) (hent := bX) ?_
   apply aC
   refine cl [0, 3, 4, 5, 6, 7] ?_
   repeat apply aA
   apply aB
   iterate 2 refine v0 ?_
   refine oc0 [(0, 95000)] [] [0] none (spec := aFA r u v hsr hsp) (hent := aJL) ?_
   refine oc0 [(0, 140), (1, 3000)] [] [0, 0] none (spec := aFD (.int .i64 z.sc.1) (.int .i64 z.sc.2) rfl rfl u v z.st) (hent := aNv) (hg := by (simp only [cH, gev, aT, Nat.reduceEqDiff, reduceIte, aNE] <;> rfl)) ?_
   apply aC
   refine ⟨_, ({ z with sc := (u, v) } : Plt), lc [130, 140, 150, 0, 3000], rfl, ?_, ?_, rfl⟩
   ·exact hstep
   ·simp only [List.length_append, List.length_cons, List.length_nil]; omega
  ·have hnone : dW gX Plt.z s = none := by rw [fY hs]; exact fT hz hln (by rw [hwr]; simp [gX, hsp])
   repeat apply aA
   refine rd ?_
   refine d0 0 ?_
   refine d0 1 ?_
   refine d0 2 ?_
   refine eO 3 [(0, 95000)] [] [0] none (spec := cN [112, 108, 97, 116, 101] r) (hent := dL) ?_
   refine dl 4 (hv := aLN) (hkk := aEz _) ?_
   refine d0 5 ?_
   refine d0 6 ?_
   refine d0 7 ?_
   refine d0 8 ?_
   refine d0 9 ?_
   refine dz 10 [0, 1, 0, 4, 15, 31, 63, 63, 127, 511] ?_
   refine de 10 ?_
   refine cl [0, 3, 4, 5, 6, 7, 8] ?_
   repeat apply aA
   apply aB
   refine v0 ?_
   refine pc0 (spec := bG _) (hent := bX) ?_
   apply aC
   refine cl [0, 3, 4, 5, 6, 7] ?_
   repeat apply aA
   apply aB
   iterate 2 refine v0 ?_
   refine op0 [(0, 95000)] [] [0] none (spec := aFB r hsr hsp) (hent := aJL) ?_
   repeat (first | refine aO ?_ | refine aN ?_ | refine aW ?_)
   exact ⟨rfl, z, zT [130, 140, 150, 0, 3000], rfl, hnone, rfl⟩
  ·have hstep : run gX ((bQ s).take (k + 1)) Plt.z = some (({ z with st := z.st ++ [x] } : Plt)) := by rw [iG hz hln, hwr]; simp [gX, hsp]
   repeat apply aA
   refine rd ?_
   refine d0 0 ?_
   refine d0 1 ?_
   refine d0 2 ?_
   refine eO 3 [(0, 95000)] [] [0] none (spec := cN [115, 116, 97, 114] r) (hent := dL) ?_
   refine dl 4 (hv := aLO) (hkk := aEz _) ?_
   refine d0 5 ?_
   refine d0 6 ?_
   refine d0 7 ?_
   refine d0 8 ?_
   refine d0 9 ?_
   refine dz 10 [0, 1, 0, 4, 15, 31, 63, 63, 127, 511] ?_
   refine de 10 ?_
   refine cl [0, 3, 4, 5, 6, 7, 8] ?_
   repeat apply aA
   apply aB
   refine v0 ?_
   refine pc0 (spec := bG _) (hent := bX) ?_
   apply aC
   refine cl [0, 3, 4, 5, 6, 7] ?_
   repeat apply aA
   apply aB
   iterate 2 refine v0 ?_
   refine oc0 [(0, 95000)] [] [0] none (spec := aJW r x hsr hsp) (hent := aJS) ?_
   refine oc0 [(0, 140), (1, 3000)] [] [0, 0] none (spec := aHR (.int .i64 z.sc.1) (.int .i64 z.sc.2) rfl rfl x z.st (by omega)) (hent := aNw) (hg := by (simp only [cH, gev, aT, Nat.reduceEqDiff, reduceIte, aNF] <;> rfl)) ?_
   apply aC
   refine ⟨_, ({ z with st := z.st ++ [x] } : Plt), lc [130, 140, 150, 0, 3000], rfl, ?_, ?_, rfl⟩
   ·exact hstep
   ·simp only [List.length_append, List.length_cons, List.length_nil]; omega
  ·have hnone : dW gX Plt.z s = none := by rw [fY hs]; exact fT hz hln (by rw [hwr]; simp [gX, hsp])
   repeat apply aA
   refine rd ?_
   refine d0 0 ?_
   refine d0 1 ?_
   refine d0 2 ?_
   refine eO 3 [(0, 95000)] [] [0] none (spec := cN [115, 116, 97, 114] r) (hent := dL) ?_
   refine dl 4 (hv := aLO) (hkk := aEz _) ?_
   refine d0 5 ?_
   refine d0 6 ?_
   refine d0 7 ?_
   refine d0 8 ?_
   refine d0 9 ?_
   refine dz 10 [0, 1, 0, 4, 15, 31, 63, 63, 127, 511] ?_
   refine de 10 ?_
   refine cl [0, 3, 4, 5, 6, 7, 8] ?_
   repeat apply aA
   apply aB
   refine v0 ?_
   refine pc0 (spec := bG _) (hent := bX) ?_
   apply aC
   refine cl [0, 3, 4, 5, 6, 7] ?_
   repeat apply aA
   apply aB
   iterate 2 refine v0 ?_
   refine op0 [(0, 95000)] [] [0] none (spec := aJX r hsr hsp) (hent := aJS) ?_
   repeat (first | refine aO ?_ | refine aN ?_ | refine aW ?_)
   exact ⟨rfl, z, zT [130, 140, 150, 0, 3000], rfl, hnone, rfl⟩
  ·have hnone : dW gX Plt.z s = none := by rw [fY hs]; exact fT hz hln (by rw [hwr]; simp [gX, hw1, hw2])
   repeat apply aA
   refine rd ?_
   refine d0 0 ?_
   refine d0 1 ?_
   refine d0 2 ?_
   refine eO 3 [(0, 95000)] [] [0] none (spec := cN w r) (hent := dL) ?_
   refine dl 4 (hv := aOv hw1 hw2) (hkk := aEz _) ?_
   refine d0 5 ?_
   refine d0 6 ?_
   refine d0 7 ?_
   refine d0 8 ?_
   refine d0 9 ?_
   refine dz 10 [0, 1, 0, 4, 15, 31, 63, 63, 127, 511] ?_
   refine de 10 ?_
   refine cl [0, 3, 4, 5, 6, 7, 8] ?_
   repeat apply aA
   apply aB
   refine v0 ?_
   refine pp0 (spec := dE _) (hent := bX) ?_
   repeat (first | refine aO ?_ | refine aN ?_ | refine aW ?_)
   exact ⟨rfl, z, zT [130, 140, 150, 0, 3000], rfl, hnone, rfl⟩
 ·exact hK.elim
 ·obtain ⟨rfl, hn, rfl⟩ := hP
  repeat (first | refine aO ?_ | refine aN ?_)
  refine bP ?_
  try refine om (h3 := by simp [bM, dD, G.idl, G.idls, cL, aE, aI]) ?_
  refine eY [150, 140, 3000] [(0, 150), (1, 140), (2, 3000)] (spec := aEs 8 (by omega) (.int .i64 z.sc.1) (.int .i64 z.sc.2) z.st.length (z.st.map eJ)) (hent := aA1) ?_
  refine cV ?_
  refine fk2 [0] ?_
  rw [aLP hn]
  rfl
 ·cases ht
 ·obtain ⟨hz, hzl, rfl⟩ := hI
  rw [List.length_map, List.take_length] at hz
  rw [List.length_map] at hzl
  have hln2 := kK s
  have hrr : dW gX Plt.z s = some z := (fY hs).trans hz
  refine xcl [0, 3, 4, 5] ?_
  repeat apply aX
  refine bO ?_
  refine pL 3000 (by (simp only [aE, aI, Nat.reduceEqDiff, reduceIte] <;> rfl)) ?_
  refine nC 140 2 .p (by (simp only [aE, aI, Nat.reduceEqDiff, reduceIte] <;> rfl)) (by rfl) (by simp only [cvS, toP, aE, aI, Nat.reduceEqDiff, reduceIte] <;> rfl) (by simp) rfl (by simp only [List.set_cons_zero, List.set_cons_succ] <;> rfl) ?_
  have hpl : nF z = .agg [.int .i64 z.sc.1, .int .i64 z.sc.2, .list (z.st.map eJ)] := rfl
  have hcase : (z.valid = true ∧ txt (iA z) = s) ∨ (z.valid = true ∧ txt (iA z) ≠ s) ∨ z.valid = false := by
   cases z.valid with
   | false => exact .inr (.inr rfl)
   | true =>
        by_cases h2 : txt (iA z) = s
        ·exact .inl ⟨rfl, h2⟩
        ·exact .inr (.inl ⟨rfl, h2⟩)
  rcases hcase with ⟨hv, ht⟩ | ⟨hv, ht⟩ | hv
  ·apply aB
   iterate 2 refine v0 ?_
   refine oc0 [(0, 0)] [] [0, 0] none (spec := qZ z hv mW) (hent := aGc) ?_
   iterate 5 refine v0 ?_
   apply aC
   refine xcl [0, 3, 4, 5, 9, 10] ?_
   repeat apply aX
   refine bO ?_
   apply aB
   iterate 2 refine v0 ?_
   refine rb 40 true (h := by (first | with_reducible rfl | exact decide_eq_true (by omega) | rfl | decide)) ?_
   refine v0 ?_
   iterate 3 refine w0 ?_
   refine rb 44 true (h := by (first | exact decide_eq_true ht | simp [ht])) ?_
   refine v0 ?_
   refine rb 45 true (h := by (first | with_reducible rfl | exact decide_eq_true (by omega) | rfl | decide)) ?_
   refine pc0 (spec := bG _) (hent := bX) ?_
   apply aC
   refine xcl [3, 4, 5] ?_
   repeat apply aX
   refine bO ?_
   apply aB
   refine v0 ?_
   iterate 2 refine s1 (hc := aBC.h {}) ?_
   apply aC
   repeat apply aX
   refine bO ?_
   refine aL ?_
   repeat (first | refine aH ?_ | refine aF ?_ | refine aD ?_)
   refine tE ?_
   try refine om (h3 := by simp [bM, dD, G.idl, G.idls, cL, aE, aI]) ?_
   refine eY [150, 140] [(0, 150), (1, 140)] (spec := aG9 (.int .i64 z.sc.1) (.int .i64 z.sc.2) (.list (z.st.map eJ))) (hent := aA1) ?_
   refine cV ?_
   refine fk2 [0] ?_
   rw [aOw hrr hv ht]
   rfl
  ·apply aB
   iterate 2 refine v0 ?_
   refine oc0 [(0, 0)] [] [0, 0] none (spec := qZ z hv mW) (hent := aGc) ?_
   iterate 5 refine v0 ?_
   apply aC
   refine xcl [0, 3, 4, 5, 9, 10] ?_
   repeat apply aX
   refine bO ?_
   apply aB
   iterate 2 refine v0 ?_
   refine rb 40 true (h := by (first | with_reducible rfl | exact decide_eq_true (by omega) | rfl | decide)) ?_
   refine v0 ?_
   iterate 3 refine w0 ?_
   refine rb 44 false (h := by (first | exact decide_eq_false ht | simp [ht])) ?_
   refine v0 ?_
   refine rb 45 false (h := by (first | with_reducible rfl | exact decide_eq_false (by omega) | rfl | decide)) ?_
   refine pp0 (spec := dE _) (hent := bX) ?_
   repeat (first | refine aO ?_ | refine aN ?_)
   refine bP ?_
   try refine om (h3 := by simp [bM, dD, G.idl, G.idls, cL, aE, aI]) ?_
   refine eY [150, 140] [(0, 150), (1, 140)] (spec := aEp 8 (by omega) (.int .i64 z.sc.1) (.int .i64 z.sc.2) (.list (z.st.map eJ))) (hent := aA1) ?_
   refine cV ?_
   refine fk2 [0] ?_
   rw [aLQ hrr (.inr ht)]
   rfl
  ·apply aB
   iterate 2 refine v0 ?_
   refine oc0 [(0, 0)] [] [0, 0] none (spec := aCY z hv (by omega) mW) (hent := aGc) ?_
   iterate 5 refine v0 ?_
   apply aC
   refine xcl [0, 3, 4, 5, 9, 10] ?_
   repeat apply aX
   refine bO ?_
   apply aB
   iterate 2 refine v0 ?_
   refine rb 40 false (h := by (first | with_reducible rfl | exact decide_eq_false (by omega) | rfl | decide)) ?_
   refine v0 ?_
   iterate 3 refine x0 ?_
   refine v0 ?_
   refine rb 45 false (h := by (first | with_reducible rfl | exact decide_eq_false (by omega) | rfl | decide)) ?_
   refine pp0 (spec := dE _) (hent := bX) ?_
   repeat (first | refine aO ?_ | refine aN ?_)
   refine bP ?_
   try refine om (h3 := by simp [bM, dD, G.idl, G.idls, cL, aE, aI]) ?_
   refine eY [150, 140] [(0, 150), (1, 140)] (spec := aEp 8 (by omega) (.int .i64 z.sc.1) (.int .i64 z.sc.2) (.list (z.st.map eJ))) (hent := aA1) ?_
   refine cV ?_
   refine fk2 [0] ?_
   rw [aLQ hrr (.inl hv)]
   rfl
theorem aFK (s : Str) (h : s.length ≤ 4096) (hs : Lib.hasSuffix s [10] = false) : Gh.bE E 59 [.p (.str s), .agg [.p (.fn (.func 112) [] []), .map 0, .p (.fn (.func 115) [] [])]] (aG [(0, .map mW)]) A (fun y => y = .ok (.p (rdP s)) (aG [(0, .map mW)]) A) := by
 refine kW Tryz.func59 (rfl : Tryz.f59.body = some _) (Nat.le_of_ble_eq_true rfl) (fun id h => ?_) (fun j id h => ?_) ?_
 ·exact nD h
 ·exact nE h
 intro C hN hL
 replace hN : C.N = 48 := hN
 simp only [Gh.num, List.map_cons, List.map_nil, Nat.reduceAdd]
 repeat apply aX
 refine bO ?_
 apply aB
 refine n1 130 false (hc := aBC.h {}) ?_
 refine n1 140 false (hc := aBC.h {}) ?_
 refine n1 150 false (hc := aBC.h {}) ?_
 apply aC
 refine xcl [0, 3, 4, 5] ?_
 repeat apply aX
 refine bO ?_
 apply aB
 refine v0 ?_
 refine df0 ?_
 apply aC
 refine xcl [0, 3, 4, 5] ?_
 repeat apply aX
 refine bO ?_
 refine ad 140 2 3000 84 9 false ?_
 apply aB
 iterate 3 refine v0 ?_
 refine rb 14 true (h := by (first | with_reducible rfl | exact decide_eq_true (by omega) | rfl | decide)) ?_
 refine pc0 (spec := bG _) (hent := bX) ?_
 apply aC
 refine xcl [0, 3, 4, 5] ?_
 repeat apply aX
 refine bO ?_
 apply aB
 refine v0 ?_
 refine oc0 [] [] [0] none (spec := iY s) (hent := yA) ?_
 apply aC
 refine xcl [0, 3, 4, 5, 17] ?_
 repeat apply aX
 refine iN ?_
 repeat apply aX
 refine rfY 10000 99001 [18] (fun k (z : Plt) A1 => z = Plt.z ∧ A1 = A) (fun z => [(130, .cells [.p (.fn (.func 112) [] []), .map 0, .p (.fn (.func 115) [] [])] 0), (140, .cells [.p (.int .i64 z.sc.1), .p (.int .i64 z.sc.2), .own 3000 z.st.length] 0), (150, .cells [.p (.int .i64 0)] 0), (0, .map mW), (3000, .arr 84 9 (z.st.map eJ) false)]) (fun _ (_ : Plt) _ => False) (fun _ _ => []) (fun _ (_ : Plt) _ => False) (fun _ z => [(130, .cells [.p (.fn (.func 112) [] []), .map 0, .p (.fn (.func 115) [] [])] 0), (140, .cells [.p (.int .i64 z.sc.1), .p (.int .i64 z.sc.2), .own 3000 z.st.length] 0), (150, .cells [.p (.int .i64 0)] 0), (0, .map mW), (3000, .arr 84 9 (z.st.map eJ) false)]) [] [.k] (it := yC s (by omega) hs) (hent := yB) (xs := []) (tail := some (.iface 218 (.agg [.int .i64 8]))) (pan := true) (hlen := fun x hx => by cases hx) (hshp := fun x hx => by cases hx) (h0 := ?_) (round := fun k z A1 x hI hx lp bs C1 hN1 hL1 => ?_) (hK := fun e z A1 hK => ?_) (hP := fun p z A1 hP => ?_) (hT := fun p z A1 ht hT => ?_) (hI := fun z A1 ht hI => ?_)
 ·exact ⟨Plt.z, ⟨rfl, rfl⟩, rfl⟩
 ·cases hx
 ·exact hK.elim
 ·exact hP.elim
 ·cases ht
  obtain ⟨rfl, rfl⟩ := hT
  repeat (first | refine aO ?_ | refine aN ?_)
  refine bP ?_
  try refine om (h3 := by simp [bM, dD, G.idl, G.idls, cL, aE, aI]) ?_
  refine eY [150, 140, 3000] [(0, 150), (1, 140), (2, 3000)] (spec := aEs 8 (by omega) (.int .i64 Plt.z.sc.1) (.int .i64 Plt.z.sc.2) Plt.z.st.length (Plt.z.st.map eJ)) (hent := aA1) ?_
  refine cV ?_
  refine fk2 [0] ?_
  rw [aLP (aDe hs)]
  rfl
 ·cases ht
theorem aFL (s : Str) (x : P) (h : s.length ≤ 4096) (hx : rdP s = x) : Gh.bE E 59 [.p (.str s), .agg [.p (.fn (.func 112) [] []), .map 0, .p (.fn (.func 115) [] [])]] (aG [(0, .map mW)]) A (fun y => y = .ok (.p x) (aG [(0, .map mW)]) A) := by
 subst hx
 cases hs : Lib.hasSuffix s [10] with
 | true => exact aFJ s h hs
 | false => exact aFK s h hs
theorem aJ6 {s : Str} {p : Plt} (h : wR s = some p) : rdP s = .tuple [nF p, .int .i64 0] := by unfold rdP; rw [h]
theorem aOy : aJ Tryz.prog 20 := aJ.mk Tryz.func20 (by kernel_rfl) rfl
theorem aHW (s : Str) (p : Plt) (h : s.length ≤ 4096) (hr : wR s = some p) : bZ Tryz.prog 20 [.str s] (.ok (.tuple [nF p, .int .i64 0])) := by
 refine bS Tryz.func20 (rfl : Tryz.f20.body = some _) rfl ?_
 intro E A C hN hL
 replace hN : C.N = 9 := hN
 simp only [Gh.num, List.map_cons, List.map_nil, Nat.reduceAdd]
 unfold nF
 repeat apply aA
 apply aB
 refine n1 120 false (hc := aBC.h {}) ?_
 refine v0 ?_
 apply aC
 refine cl [0, 2] ?_
 repeat apply aA
 apply aB
 refine v0 ?_
 refine oc0 [(110, 2000)] [] [] none (spec := aEx) (hent := aLL) ?_
 refine oc0 [(0, 2000)] [] [0, 0] none (spec := aFL s _ h (aJ6 hr)) (hent := aOx) ?_
 iterate 2 refine v0 ?_
 refine s1 (hc := aBC.h {}) ?_
 refine v0 ?_
 apply aC
 repeat apply aA
 refine aL ?_
 repeat (first | refine aH ?_ | refine aF ?_ | refine aD ?_)
 refine aM ?_
 refine fp2 ?_
 rfl
end
section
open Go.Gh
variable {E : Env Tryz.prog} {A : E.α}
structure aBD (c : Prop) : Prop where
 h : c := by (first | exact True.intro | omega | (simp only [inI]; omega) | (simp [P.size, bR, bF, bN, bB, cR, good, G.one, P.one, P.cells] <;> first | omega | assumption | simp_all))
theorem zI (c : UInt8) : ∀ l : List UInt8, (dF c l).length ≤ l.length + 1
 | [] => by simp [dF]
 | b :: l => by
  have ih := zI c l
  rw [dF]
  split
  ·simp only [List.length_cons]; omega
  ·cases e : dF c l with
   | nil => simp
   | cons p ps => rw [e] at ih; simp only [List.length_cons] at ih ⊢; omega
theorem aBo (ln : Str) : (gV ln).length ≤ ln.length + 1 := by
 have := zI 32 (Lib.trimSuffix ln [10])
 have := aA2 ln [10]
 unfold gV
 omega
def aLm : TI := ⟨.func #[164] #[206] false, 1, 8, [.p .nilfn], false⟩
theorem aLR : eL (eV aLm) (cO (geq Tryz.prog 6 9) (.str [99, 104, 97, 105, 110]) kJ) = some (true, .p (.fn (.func 121) [] [.ptr [.fn (.func 118) [] []]])) := by simp [kJ, cO, cX]; rfl
theorem aLS : eL (eV aLm) (cO (geq Tryz.prog 6 9) (.str [107, 110, 111, 119, 115]) kJ) = some (true, .p (.fn (.func 122) [] [.ptr [.fn (.func 118) [] []]])) := by simp [kJ, cO, cX]; rfl
theorem aLT : eL (eV aLm) (cO (geq Tryz.prog 6 9) (.str [108, 111, 97, 110]) kJ) = some (true, .p (.fn (.func 123) [] [.ptr [.fn (.func 118) [] []]])) := by simp [kJ, cO, cX]; rfl
theorem aOz {w : Str} (h1 : w ≠ [99, 104, 97, 105, 110]) (h2 : w ≠ [107, 110, 111, 119, 115]) (h3 : w ≠ [108, 111, 97, 110]) : eL (eV aLm) (cO (geq Tryz.prog 6 9) (.str w) kJ) = some (false, .p .nilfn) := by simp [kJ, cO, cX, h1, h2, h3]; rfl
theorem aBp (w : Str) : jG (geq Tryz.prog 6 9) (.str w) kJ := by
 simp only [jG, kJ, cX, Option.isSome_some, true_and, Option.some.injEq, decide_eq_true_eq]
 intro x hx
 simp only [List.mem_cons, List.not_mem_nil, or_false] at hx
 rcases hx with rfl | rfl | rfl <;> simp [cX] <;> exact fun h => h.symm
theorem aNG : iK Tryz.prog 208 "zoneworks/book.put" = some 234 := by kernel_rfl
theorem aNH : iK Tryz.prog 210 "zoneworks/book.put" = some 235 := by kernel_rfl
theorem aNI : iK Tryz.prog 211 "zoneworks/book.put" = some 236 := by kernel_rfl
theorem aOA {r : List Str} : (∃ a b d, dI r = some [a, b, d]) ∨ ∀ l, dI r = some l → (l.length : Int) ≠ 3 := by
 cases e : dI r with
 | none => exact .inr fun l h => by cases h
 | some l => match l with
  | [a, b, d] => exact .inl ⟨a, b, d, rfl⟩
  | [] => exact .inr fun l h => by cases h; simp
  | [_] => exact .inr fun l h => by cases h; simp
  | [_, _] => exact .inr fun l h => by cases h; simp
  | _ :: _ :: _ :: _ :: l => exact .inr fun l h => by cases h; simp; omega
theorem aPd {r : List Str} : (∃ a b, dI r = some [a, b]) ∨ ∀ l, dI r = some l → (l.length : Int) ≠ 2 := by
 cases e : dI r with
 | none => exact .inr fun l h => by cases h
 | some l => match l with
  | [a, b] => exact .inl ⟨a, b, rfl⟩
  | [] => exact .inr fun l h => by cases h; simp
  | [_] => exact .inr fun l h => by cases h; simp
  | _ :: _ :: _ :: l => exact .inr fun l h => by cases h; simp; omega
theorem aHX (z : Chn) (w : Str) (r : List Str) : (w = [99, 104, 97, 105, 110] ∧ ∃ a b d, dI r = some [a, b, d] ∧ eK z (w :: r) = some ({ z with pl := a, ps := b, ms := d } : Chn)) ∨ (w = [99, 104, 97, 105, 110] ∧ (∀ l, dI r = some l → (l.length : Int) ≠ 3) ∧ eK z (w :: r) = none) ∨
  (w = [107, 110, 111, 119, 115] ∧ ∃ a b, dI r = some [a, b] ∧ eK z (w :: r) = some ({ z with kn := z.kn ++ [(a, b)] } : Chn)) ∨ (w = [107, 110, 111, 119, 115] ∧ (∀ l, dI r = some l → (l.length : Int) ≠ 2) ∧ eK z (w :: r) = none) ∨
  (w = [108, 111, 97, 110] ∧ ∃ a b d, dI r = some [a, b, d] ∧ eK z (w :: r) = some ({ z with rs := z.rs ++ [(a, b, d)] } : Chn)) ∨ (w = [108, 111, 97, 110] ∧ (∀ l, dI r = some l → (l.length : Int) ≠ 3) ∧ eK z (w :: r) = none) ∨
  ((w ≠ [99, 104, 97, 105, 110] ∧ w ≠ [107, 110, 111, 119, 115] ∧ w ≠ [108, 111, 97, 110]) ∧ eK z (w :: r) = none) := by
 by_cases h1 : w = [99, 104, 97, 105, 110]
 ·subst h1
  rcases aOA (r := r) with ⟨a, b, d, e⟩ | e
  ·exact .inl ⟨rfl, a, b, d, e, by simp [eK, e]⟩
  ·refine .inr (.inl ⟨rfl, e, ?_⟩)
   simp only [eK, if_true]
   split
   ·rename_i h; have := e _ h; simp at this
   ·rfl
 ·by_cases h2 : w = [107, 110, 111, 119, 115]
  ·subst h2
   rcases aPd (r := r) with ⟨a, b, e⟩ | e
   ·exact .inr (.inr (.inl ⟨rfl, a, b, e, by simp [eK, e]⟩))
   ·refine .inr (.inr (.inr (.inl ⟨rfl, e, ?_⟩)))
    simp only [eK, h1, if_false, if_true]
    split
    ·rename_i h; have := e _ h; simp at this
    ·rfl
  ·by_cases h3 : w = [108, 111, 97, 110]
   ·subst h3
    rcases aOA (r := r) with ⟨a, b, d, e⟩ | e
    ·exact .inr (.inr (.inr (.inr (.inl ⟨rfl, a, b, d, e, by simp [eK, e]⟩))))
    ·refine .inr (.inr (.inr (.inr (.inr (.inl ⟨rfl, e, ?_⟩)))))
     simp only [eK, h1, h2, if_false, if_true]
     split
     ·rename_i h; have := e _ h; simp at this
     ·rfl
   ·exact .inr (.inr (.inr (.inr (.inr (.inr ⟨⟨h1, h2, h3⟩, by simp [eK, h1, h2, h3]⟩)))))
def rdC (s : Str) : P := match wS s with
 | some p => .tuple [nG p, .int .i64 0]
 | none => .tuple [nG Chn.z, .int .i64 8]
theorem aLU {s : Str} (h : dW eK Chn.z s = none) : rdC s = .tuple [nG Chn.z, .int .i64 8] := by unfold rdC wS; rw [h]
theorem aLV {s : Str} {p : Chn} (h : dW eK Chn.z s = some p) (h2 : p.valid = false ∨ txt (gW p) ≠ s) : rdC s = .tuple [nG Chn.z, .int .i64 8] := by
 unfold rdC wS
 rw [h]
 rcases h2 with h2 | h2 <;> simp [h2]
theorem aOB {s : Str} {p : Chn} (h : dW eK Chn.z s = some p) (h1 : p.valid = true) (h2 : txt (gW p) = s) : rdC s = .tuple [nG p, .int .i64 0] := by
 unfold rdC wS
 rw [h]
 simp [h1, h2]
theorem aOC : aJ Tryz.prog 64 := aJ.mk Tryz.func64 (by kernel_rfl) rfl
theorem aFM (s : Str) (h : s.length ≤ 4096) (hs : Lib.hasSuffix s [10] = true) : Gh.bE E 64 [.p (.str s), .agg [.p (.fn (.func 120) [] []), .map 0, .p (.fn (.func 124) [] [])]] (aG [(0, .map kJ)]) A (fun y => y = .ok (.p (rdC s)) (aG [(0, .map kJ)]) A) := by
 refine kW Tryz.func64 (rfl : Tryz.f64.body = some _) (Nat.le_of_ble_eq_true rfl) (fun id h => ?_) (fun j id h => ?_) ?_
 ·exact nD h
 ·exact nE h
 intro C hN hL
 replace hN : C.N = 48 := hN
 simp only [Gh.num, List.map_cons, List.map_nil, Nat.reduceAdd]
 repeat apply aX
 refine bO ?_
 apply aB
 refine n1 130 false (hc := aBD.h {}) ?_
 refine n1 140 false (hc := aBD.h {}) ?_
 refine n1 150 false (hc := aBD.h {}) ?_
 apply aC
 refine xcl [0, 3, 4, 5] ?_
 repeat apply aX
 refine bO ?_
 apply aB
 refine v0 ?_
 refine df0 ?_
 apply aC
 refine xcl [0, 3, 4, 5] ?_
 repeat apply aX
 refine bO ?_
 refine ad 140 2 3000 126 2 false ?_
 refine ad 140 3 3010 86 3 false ?_
 apply aB
 iterate 3 refine v0 ?_
 refine rb 14 true (h := by (first | with_reducible rfl | exact decide_eq_true (by omega) | rfl | decide)) ?_
 refine pc0 (spec := bG _) (hent := bX) ?_
 apply aC
 refine xcl [0, 3, 4, 5] ?_
 repeat apply aX
 refine bO ?_
 apply aB
 refine v0 ?_
 refine oc0 [] [] [0] none (spec := iY s) (hent := yA) ?_
 apply aC
 refine xcl [0, 3, 4, 5, 17] ?_
 repeat apply aX
 refine iN ?_
 repeat apply aX
 refine rfY 10000 99001 [18] (fun k (z : Chn) A1 => run eK ((bQ s).take k) Chn.z = some z ∧ z.kn.length ≤ k ∧ z.rs.length ≤ k ∧ A1 = A) (fun z => [(130, .cells [.p (.fn (.func 120) [] []), .map 0, .p (.fn (.func 124) [] [])] 0), (140, .cells [.p (.int .i64 z.pl), .p (.int .i64 z.ps), .own 3000 z.kn.length, .own 3010 z.rs.length, .p (.int .i64 z.ms)] 0), (150, .cells [.p (.int .i64 0)] 0), (0, .map kJ), (3000, .arr 126 2 (z.kn.map pSp) false), (3010, .arr 86 3 (z.rs.map pRc) false)]) (fun _ (_ : Chn) _ => False) (fun _ _ => []) (fun p (_ : Chn) A1 => p = .iface 218 (.agg [.int .i64 8]) ∧ dW eK Chn.z s = none ∧ A1 = A) (fun _ z => [(130, .cells [.p (.fn (.func 120) [] []), .map 0, .p (.fn (.func 124) [] [])] 0), (140, .cells [.p (.int .i64 z.pl), .p (.int .i64 z.ps), .own 3000 z.kn.length, .own 3010 z.rs.length, .p (.int .i64 z.ms)] 0), (150, .cells [.p (.int .i64 0)] 0), (0, .map kJ), (3000, .arr 126 2 (z.kn.map pSp) false), (3010, .arr 86 3 (z.rs.map pRc) false)]) [] [.k] (it := aCU s (by omega) hs) (hent := yB) (xs := pls s) (tail := none) (pan := true) (hlen := fun x hx => by obtain ⟨w, _, rfl⟩ := List.mem_map.1 hx; rfl) (hshp := fun x hx => by obtain ⟨w, _, rfl⟩ := List.mem_map.1 hx; exact .inr ⟨_, rfl⟩) (h0 := ?_) (round := fun k z A1 x hI hx lp bs C1 hN1 hL1 => ?_) (hK := fun e z A1 hK => ?_) (hP := fun p z A1 hP => ?_) (hT := fun p z A1 ht hT => ?_) (hI := fun z A1 ht hI => ?_)
 ·exact ⟨Chn.z, ⟨rfl, Nat.zero_le _, Nat.zero_le _, rfl⟩, rfl⟩
 ·obtain ⟨hz, hzlkn, hzlrs, rfl⟩ := hI
  obtain ⟨ln, hln, rfl⟩ := aDf hx
  have hll : ln.length ≤ 4096 := by have := oG s ln (List.mem_of_getElem? hln); omega
  have hkl : k < (bQ s).length := (List.getElem?_eq_some_iff.1 hln).1
  have hln2 := kK s
  replace hN1 : C1.N = 48 := hN1.trans hN
  refine (?_ : gwp C1 (some lp) _ _ (sg ((18, .ref 95000 0) :: _) [(95000, .cells [.p (bT (gV ln))] 0), (130, .cells [.p (.fn (.func 120) [] []), .map 0, .p (.fn (.func 124) [] [])] 0), (140, .cells [.p (.int .i64 z.pl), .p (.int .i64 z.ps), .own 3000 z.kn.length, .own 3010 z.rs.length, .p (.int .i64 z.ms)] 0), (150, .cells [.p (.int .i64 0)] 0), (0, .map kJ), (3000, .arr 126 2 (z.kn.map pSp) false), (3010, .arr 86 3 (z.rs.map pRc) false)] A1 []))
  repeat apply aA
  apply aB
  refine v0 ?_
  apply aC
  refine ⟨rfl, fun bs2 C2 hN2 hL2 hr2 => ?_⟩
  replace hN2 : C2.N = 48 := hN2.trans hN
  refine (?_ : gwp C2 (some lp) _ _ (sg _ _ _ []))
  repeat apply aA
  refine aP ?_
  repeat apply aA
  obtain ⟨w, r, hwr⟩ := aC2 ln
  have hsr : cE r := fun x hx => vL (ln := ln) (by omega) x (by rw [hwr]; exact List.mem_cons_of_mem _ hx)
  have hrl : r.length ≤ 100000 := by have h1 := aBo ln; rw [hwr] at h1; simp only [List.length_cons] at h1; omega
  rw [hwr]
  rcases aHX z w r with ⟨rfl, a, b, d, hsp, hst⟩ | ⟨rfl, hsp, hst⟩ | ⟨rfl, a, b, hsp, hst⟩ | ⟨rfl, hsp, hst⟩ | ⟨rfl, a, b, d, hsp, hst⟩ | ⟨rfl, hsp, hst⟩ | ⟨⟨hw1, hw2, hw3⟩, hst⟩
  ·have hstep : run eK ((bQ s).take (k + 1)) Chn.z = some (({ z with pl := a, ps := b, ms := d } : Chn)) := by rw [iG hz hln, hwr]; exact hst
   repeat apply aA
   refine rd ?_
   refine d0 0 ?_
   refine d0 1 ?_
   refine d0 2 ?_
   refine eO 3 [(0, 95000)] [] [0] none (spec := cN [99, 104, 97, 105, 110] r) (hent := dL) ?_
   refine dl 4 (hv := aLR) (hkk := aBp _) ?_
   refine d0 5 ?_
   refine d0 6 ?_
   refine d0 7 ?_
   refine d0 8 ?_
   refine d0 9 ?_
   refine dz 10 [0, 1, 0, 4, 15, 31, 63, 63, 127, 511] ?_
   refine de 10 ?_
   refine cl [0, 3, 4, 5, 6, 7, 8] ?_
   repeat apply aA
   apply aB
   refine v0 ?_
   refine pc0 (spec := bG _) (hent := bX) ?_
   apply aC
   refine cl [0, 3, 4, 5, 6, 7] ?_
   repeat apply aA
   apply aB
   iterate 2 refine v0 ?_
   refine oc0 [(0, 95000)] [] [0, 0] none (spec := aHM r hsr hrl a b d hsp) (hent := aJY) ?_
   refine oc0 [(0, 140), (1, 3000), (2, 3010)] [] [0, 0] none (spec := aFE (.int .i64 z.pl) (.int .i64 z.ps) (.int .i64 z.ms) rfl rfl rfl z.kn z.rs a b d) (hent := aNz) (hg := by (simp only [cH, gev, aT, Nat.reduceEqDiff, reduceIte, aNG] <;> rfl)) ?_
   apply aC
   refine ⟨_, ({ z with pl := a, ps := b, ms := d } : Chn), lc [130, 140, 150, 0, 3000, 3010], rfl, ?_, ?_, ?_, rfl⟩
   ·exact hstep
   ·(try simp only [List.length_append, List.length_cons, List.length_nil]); omega
   ·(try simp only [List.length_append, List.length_cons, List.length_nil]); omega
  ·have hnone : dW eK Chn.z s = none := by rw [fY hs]; exact fT hz hln (by rw [hwr]; exact hst)
   repeat apply aA
   refine rd ?_
   refine d0 0 ?_
   refine d0 1 ?_
   refine d0 2 ?_
   refine eO 3 [(0, 95000)] [] [0] none (spec := cN [99, 104, 97, 105, 110] r) (hent := dL) ?_
   refine dl 4 (hv := aLR) (hkk := aBp _) ?_
   refine d0 5 ?_
   refine d0 6 ?_
   refine d0 7 ?_
   refine d0 8 ?_
   refine d0 9 ?_
   refine dz 10 [0, 1, 0, 4, 15, 31, 63, 63, 127, 511] ?_
   refine de 10 ?_
   refine cl [0, 3, 4, 5, 6, 7, 8] ?_
   repeat apply aA
   apply aB
   refine v0 ?_
   refine pc0 (spec := bG _) (hent := bX) ?_
   apply aC
   refine cl [0, 3, 4, 5, 6, 7] ?_
   repeat apply aA
   apply aB
   iterate 2 refine v0 ?_
   refine op0 [(0, 95000)] [] [0, 0] none (spec := aHN r hsr hrl hsp) (hent := aJY) ?_
   repeat (first | refine aO ?_ | refine aN ?_ | refine aW ?_)
   exact ⟨rfl, z, zT [130, 140, 150, 0, 3000, 3010], rfl, hnone, rfl⟩
  ·have hstep : run eK ((bQ s).take (k + 1)) Chn.z = some (({ z with kn := z.kn ++ [(a, b)] } : Chn)) := by rw [iG hz hln, hwr]; exact hst
   repeat apply aA
   refine rd ?_
   refine d0 0 ?_
   refine d0 1 ?_
   refine d0 2 ?_
   refine eO 3 [(0, 95000)] [] [0] none (spec := cN [107, 110, 111, 119, 115] r) (hent := dL) ?_
   refine dl 4 (hv := aLS) (hkk := aBp _) ?_
   refine d0 5 ?_
   refine d0 6 ?_
   refine d0 7 ?_
   refine d0 8 ?_
   refine d0 9 ?_
   refine dz 10 [0, 1, 0, 4, 15, 31, 63, 63, 127, 511] ?_
   refine de 10 ?_
   refine cl [0, 3, 4, 5, 6, 7, 8] ?_
   repeat apply aA
   apply aB
   refine v0 ?_
   refine pc0 (spec := bG _) (hent := bX) ?_
   apply aC
   refine cl [0, 3, 4, 5, 6, 7] ?_
   repeat apply aA
   apply aB
   iterate 2 refine v0 ?_
   refine oc0 [(0, 95000)] [] [0, 0] none (spec := aHO r hsr hrl a b hsp) (hent := aJ2) ?_
   refine oc0 [(0, 140), (1, 3000), (2, 3010)] [] [0, 0] none (spec := aFF (.int .i64 z.pl) (.int .i64 z.ps) (.int .i64 z.ms) rfl rfl rfl z.kn z.rs (a, b) (by omega)) (hent := aNA) (hg := by (simp only [cH, gev, aT, Nat.reduceEqDiff, reduceIte, aNH] <;> rfl)) ?_
   apply aC
   refine ⟨_, ({ z with kn := z.kn ++ [(a, b)] } : Chn), lc [130, 140, 150, 0, 3000, 3010], rfl, ?_, ?_, ?_, rfl⟩
   ·exact hstep
   ·(try simp only [List.length_append, List.length_cons, List.length_nil]); omega
   ·(try simp only [List.length_append, List.length_cons, List.length_nil]); omega
  ·have hnone : dW eK Chn.z s = none := by rw [fY hs]; exact fT hz hln (by rw [hwr]; exact hst)
   repeat apply aA
   refine rd ?_
   refine d0 0 ?_
   refine d0 1 ?_
   refine d0 2 ?_
   refine eO 3 [(0, 95000)] [] [0] none (spec := cN [107, 110, 111, 119, 115] r) (hent := dL) ?_
   refine dl 4 (hv := aLS) (hkk := aBp _) ?_
   refine d0 5 ?_
   refine d0 6 ?_
   refine d0 7 ?_
   refine d0 8 ?_
   refine d0 9 ?_
   refine dz 10 [0, 1, 0, 4, 15, 31, 63, 63, 127, 511] ?_
   refine de 10 ?_
   refine cl [0, 3, 4, 5, 6, 7, 8] ?_
   repeat apply aA
   apply aB
   refine v0 ?_
   refine pc0 (spec := bG _) (hent := bX) ?_
   apply aC
   refine cl [0, 3, 4, 5, 6, 7] ?_
   repeat apply aA
   apply aB
   iterate 2 refine v0 ?_
   refine op0 [(0, 95000)] [] [0, 0] none (spec := aHP r hsr hrl hsp) (hent := aJ2) ?_
   repeat (first | refine aO ?_ | refine aN ?_ | refine aW ?_)
   exact ⟨rfl, z, zT [130, 140, 150, 0, 3000, 3010], rfl, hnone, rfl⟩
  ·have hstep : run eK ((bQ s).take (k + 1)) Chn.z = some (({ z with rs := z.rs ++ [(a, b, d)] } : Chn)) := by rw [iG hz hln, hwr]; exact hst
   repeat apply aA
   refine rd ?_
   refine d0 0 ?_
   refine d0 1 ?_
   refine d0 2 ?_
   refine eO 3 [(0, 95000)] [] [0] none (spec := cN [108, 111, 97, 110] r) (hent := dL) ?_
   refine dl 4 (hv := aLT) (hkk := aBp _) ?_
   refine d0 5 ?_
   refine d0 6 ?_
   refine d0 7 ?_
   refine d0 8 ?_
   refine d0 9 ?_
   refine dz 10 [0, 1, 0, 4, 15, 31, 63, 63, 127, 511] ?_
   refine de 10 ?_
   refine cl [0, 3, 4, 5, 6, 7, 8] ?_
   repeat apply aA
   apply aB
   refine v0 ?_
   refine pc0 (spec := bG _) (hent := bX) ?_
   apply aC
   refine cl [0, 3, 4, 5, 6, 7] ?_
   repeat apply aA
   apply aB
   iterate 2 refine v0 ?_
   refine oc0 [(0, 95000)] [] [0, 0] none (spec := aJ0 r hsr hrl a b d hsp) (hent := aJZ) ?_
   refine oc0 [(0, 140), (1, 3000), (2, 3010)] [] [0, 0] none (spec := aHU (.int .i64 z.pl) (.int .i64 z.ps) (.int .i64 z.ms) rfl rfl rfl z.kn z.rs (a, b, d) (by omega)) (hent := aNB) (hg := by (simp only [cH, gev, aT, Nat.reduceEqDiff, reduceIte, aNI] <;> rfl)) ?_
   apply aC
   refine ⟨_, ({ z with rs := z.rs ++ [(a, b, d)] } : Chn), lc [130, 140, 150, 0, 3000, 3010], rfl, ?_, ?_, ?_, rfl⟩
   ·exact hstep
   ·(try simp only [List.length_append, List.length_cons, List.length_nil]); omega
   ·(try simp only [List.length_append, List.length_cons, List.length_nil]); omega
  ·have hnone : dW eK Chn.z s = none := by rw [fY hs]; exact fT hz hln (by rw [hwr]; exact hst)
   repeat apply aA
   refine rd ?_
   refine d0 0 ?_
   refine d0 1 ?_
   refine d0 2 ?_
   refine eO 3 [(0, 95000)] [] [0] none (spec := cN [108, 111, 97, 110] r) (hent := dL) ?_
   refine dl 4 (hv := aLT) (hkk := aBp _) ?_
   refine d0 5 ?_
   refine d0 6 ?_
   refine d0 7 ?_
   refine d0 8 ?_
   refine d0 9 ?_
   refine dz 10 [0, 1, 0, 4, 15, 31, 63, 63, 127, 511] ?_
   refine de 10 ?_
   refine cl [0, 3, 4, 5, 6, 7, 8] ?_
   repeat apply aA
   apply aB
   refine v0 ?_
   refine pc0 (spec := bG _) (hent := bX) ?_
   apply aC
   refine cl [0, 3, 4, 5, 6, 7] ?_
   repeat apply aA
   apply aB
   iterate 2 refine v0 ?_
   refine op0 [(0, 95000)] [] [0, 0] none (spec := aJ1 r hsr hrl hsp) (hent := aJZ) ?_
   repeat (first | refine aO ?_ | refine aN ?_ | refine aW ?_)
   exact ⟨rfl, z, zT [130, 140, 150, 0, 3000, 3010], rfl, hnone, rfl⟩
  ·have hnone : dW eK Chn.z s = none := by rw [fY hs]; exact fT hz hln (by rw [hwr]; exact hst)
   repeat apply aA
   refine rd ?_
   refine d0 0 ?_
   refine d0 1 ?_
   refine d0 2 ?_
   refine eO 3 [(0, 95000)] [] [0] none (spec := cN w r) (hent := dL) ?_
   refine dl 4 (hv := aOz hw1 hw2 hw3) (hkk := aBp _) ?_
   refine d0 5 ?_
   refine d0 6 ?_
   refine d0 7 ?_
   refine d0 8 ?_
   refine d0 9 ?_
   refine dz 10 [0, 1, 0, 4, 15, 31, 63, 63, 127, 511] ?_
   refine de 10 ?_
   refine cl [0, 3, 4, 5, 6, 7, 8] ?_
   repeat apply aA
   apply aB
   refine v0 ?_
   refine pp0 (spec := dE _) (hent := bX) ?_
   repeat (first | refine aO ?_ | refine aN ?_ | refine aW ?_)
   exact ⟨rfl, z, zT [130, 140, 150, 0, 3000, 3010], rfl, hnone, rfl⟩
 ·exact hK.elim
 ·obtain ⟨rfl, hn, rfl⟩ := hP
  repeat (first | refine aO ?_ | refine aN ?_)
  refine bP ?_
  try refine om (h3 := by simp [bM, dD, G.idl, G.idls, cL, aE, aI]) ?_
  refine eY [150, 140, 3000, 3010] [(0, 150), (1, 140), (2, 3000), (3, 3010)] (spec := aEt 8 (by omega) (.int .i64 z.pl) (.int .i64 z.ps) (.int .i64 z.ms) z.kn.length (z.kn.map pSp) z.rs.length (z.rs.map pRc)) (hent := aBk) ?_
  refine cV ?_
  refine fk2 [0] ?_
  rw [aLU hn]
  rfl
 ·cases ht
 ·obtain ⟨hz, hzlkn, hzlrs, rfl⟩ := hI
  rw [List.length_map, List.take_length] at hz
  rw [List.length_map] at hzlkn hzlrs
  have hln2 := kK s
  have hrr : dW eK Chn.z s = some z := (fY hs).trans hz
  refine xcl [0, 3, 4, 5] ?_
  repeat apply aX
  refine bO ?_
  refine pL 3000 (by (simp only [aE, aI, Nat.reduceEqDiff, reduceIte] <;> rfl)) ?_
  refine pL 3010 (by (simp only [aE, aI, Nat.reduceEqDiff, reduceIte] <;> rfl)) ?_
  refine nC 140 2 .p (by (simp only [aE, aI, Nat.reduceEqDiff, reduceIte] <;> rfl)) (by rfl) (by simp only [cvS, toP, aE, aI, Nat.reduceEqDiff, reduceIte] <;> rfl) (by simp) rfl (by simp only [List.set_cons_zero, List.set_cons_succ] <;> rfl) ?_
  refine nC 140 3 .p (by (simp only [aE, aI, Nat.reduceEqDiff, reduceIte] <;> rfl)) (by rfl) (by simp only [cvS, toP, aE, aI, Nat.reduceEqDiff, reduceIte] <;> rfl) (by simp) rfl (by simp only [List.set_cons_zero, List.set_cons_succ] <;> rfl) ?_
  have hpl : nG z = .agg [.int .i64 z.pl, .int .i64 z.ps, .list (z.kn.map pSp), .list (z.rs.map pRc), .int .i64 z.ms] := rfl
  have hcase : (z.valid = true ∧ txt (gW z) = s) ∨ (z.valid = true ∧ txt (gW z) ≠ s) ∨ z.valid = false := by
   cases z.valid with
   | false => exact .inr (.inr rfl)
   | true =>
        by_cases h2 : txt (gW z) = s
        ·exact .inl ⟨rfl, h2⟩
        ·exact .inr (.inl ⟨rfl, h2⟩)
  rcases hcase with ⟨hv, ht⟩ | ⟨hv, ht⟩ | hv
  ·apply aB
   iterate 2 refine v0 ?_
   refine oc0 [(0, 0)] [] [0, 0] none (spec := rA z hv kJ) (hent := aGd) ?_
   iterate 5 refine v0 ?_
   apply aC
   refine xcl [0, 3, 4, 5, 9, 10] ?_
   repeat apply aX
   refine bO ?_
   apply aB
   iterate 2 refine v0 ?_
   refine rb 40 true (h := by (first | with_reducible rfl | exact decide_eq_true (by omega) | rfl | decide)) ?_
   refine v0 ?_
   iterate 3 refine w0 ?_
   refine rb 44 true (h := by (first | exact decide_eq_true ht | simp [ht])) ?_
   refine v0 ?_
   refine rb 45 true (h := by (first | with_reducible rfl | exact decide_eq_true (by omega) | rfl | decide)) ?_
   refine pc0 (spec := bG _) (hent := bX) ?_
   apply aC
   refine xcl [3, 4, 5] ?_
   repeat apply aX
   refine bO ?_
   apply aB
   refine v0 ?_
   iterate 2 refine s1 (hc := aBD.h {}) ?_
   apply aC
   repeat apply aX
   refine bO ?_
   refine aL ?_
   repeat (first | refine aH ?_ | refine aF ?_ | refine aD ?_)
   refine tE ?_
   try refine om (h3 := by simp [bM, dD, G.idl, G.idls, cL, aE, aI]) ?_
   refine eY [150, 140] [(0, 150), (1, 140)] (spec := aHr (.int .i64 z.pl) (.int .i64 z.ps) (.list (z.kn.map pSp)) (.list (z.rs.map pRc)) (.int .i64 z.ms)) (hent := aBk) ?_
   refine cV ?_
   refine fk2 [0] ?_
   rw [aOB hrr hv ht]
   rfl
  ·apply aB
   iterate 2 refine v0 ?_
   refine oc0 [(0, 0)] [] [0, 0] none (spec := rA z hv kJ) (hent := aGd) ?_
   iterate 5 refine v0 ?_
   apply aC
   refine xcl [0, 3, 4, 5, 9, 10] ?_
   repeat apply aX
   refine bO ?_
   apply aB
   iterate 2 refine v0 ?_
   refine rb 40 true (h := by (first | with_reducible rfl | exact decide_eq_true (by omega) | rfl | decide)) ?_
   refine v0 ?_
   iterate 3 refine w0 ?_
   refine rb 44 false (h := by (first | exact decide_eq_false ht | simp [ht])) ?_
   refine v0 ?_
   refine rb 45 false (h := by (first | with_reducible rfl | exact decide_eq_false (by omega) | rfl | decide)) ?_
   refine pp0 (spec := dE _) (hent := bX) ?_
   repeat (first | refine aO ?_ | refine aN ?_)
   refine bP ?_
   try refine om (h3 := by simp [bM, dD, G.idl, G.idls, cL, aE, aI]) ?_
   refine eY [150, 140] [(0, 150), (1, 140)] (spec := aEq 8 (by omega) (.int .i64 z.pl) (.int .i64 z.ps) (.list (z.kn.map pSp)) (.list (z.rs.map pRc)) (.int .i64 z.ms)) (hent := aBk) ?_
   refine cV ?_
   refine fk2 [0] ?_
   rw [aLV hrr (.inr ht)]
   rfl
  ·apply aB
   iterate 2 refine v0 ?_
   refine oc0 [(0, 0)] [] [0, 0] none (spec := aCZ z hv (by omega) (by omega) kJ) (hent := aGd) ?_
   iterate 5 refine v0 ?_
   apply aC
   refine xcl [0, 3, 4, 5, 9, 10] ?_
   repeat apply aX
   refine bO ?_
   apply aB
   iterate 2 refine v0 ?_
   refine rb 40 false (h := by (first | with_reducible rfl | exact decide_eq_false (by omega) | rfl | decide)) ?_
   refine v0 ?_
   iterate 3 refine x0 ?_
   refine v0 ?_
   refine rb 45 false (h := by (first | with_reducible rfl | exact decide_eq_false (by omega) | rfl | decide)) ?_
   refine pp0 (spec := dE _) (hent := bX) ?_
   repeat (first | refine aO ?_ | refine aN ?_)
   refine bP ?_
   try refine om (h3 := by simp [bM, dD, G.idl, G.idls, cL, aE, aI]) ?_
   refine eY [150, 140] [(0, 150), (1, 140)] (spec := aEq 8 (by omega) (.int .i64 z.pl) (.int .i64 z.ps) (.list (z.kn.map pSp)) (.list (z.rs.map pRc)) (.int .i64 z.ms)) (hent := aBk) ?_
   refine cV ?_
   refine fk2 [0] ?_
   rw [aLV hrr (.inl hv)]
   rfl
theorem aFN (s : Str) (h : s.length ≤ 4096) (hs : Lib.hasSuffix s [10] = false) : Gh.bE E 64 [.p (.str s), .agg [.p (.fn (.func 120) [] []), .map 0, .p (.fn (.func 124) [] [])]] (aG [(0, .map kJ)]) A (fun y => y = .ok (.p (rdC s)) (aG [(0, .map kJ)]) A) := by
 refine kW Tryz.func64 (rfl : Tryz.f64.body = some _) (Nat.le_of_ble_eq_true rfl) (fun id h => ?_) (fun j id h => ?_) ?_
 ·exact nD h
 ·exact nE h
 intro C hN hL
 replace hN : C.N = 48 := hN
 simp only [Gh.num, List.map_cons, List.map_nil, Nat.reduceAdd]
 repeat apply aX
 refine bO ?_
 apply aB
 refine n1 130 false (hc := aBD.h {}) ?_
 refine n1 140 false (hc := aBD.h {}) ?_
 refine n1 150 false (hc := aBD.h {}) ?_
 apply aC
 refine xcl [0, 3, 4, 5] ?_
 repeat apply aX
 refine bO ?_
 apply aB
 refine v0 ?_
 refine df0 ?_
 apply aC
 refine xcl [0, 3, 4, 5] ?_
 repeat apply aX
 refine bO ?_
 refine ad 140 2 3000 126 2 false ?_
 refine ad 140 3 3010 86 3 false ?_
 apply aB
 iterate 3 refine v0 ?_
 refine rb 14 true (h := by (first | with_reducible rfl | exact decide_eq_true (by omega) | rfl | decide)) ?_
 refine pc0 (spec := bG _) (hent := bX) ?_
 apply aC
 refine xcl [0, 3, 4, 5] ?_
 repeat apply aX
 refine bO ?_
 apply aB
 refine v0 ?_
 refine oc0 [] [] [0] none (spec := iY s) (hent := yA) ?_
 apply aC
 refine xcl [0, 3, 4, 5, 17] ?_
 repeat apply aX
 refine iN ?_
 repeat apply aX
 refine rfY 10000 99001 [18] (fun k (z : Chn) A1 => z = Chn.z ∧ A1 = A) (fun z => [(130, .cells [.p (.fn (.func 120) [] []), .map 0, .p (.fn (.func 124) [] [])] 0), (140, .cells [.p (.int .i64 z.pl), .p (.int .i64 z.ps), .own 3000 z.kn.length, .own 3010 z.rs.length, .p (.int .i64 z.ms)] 0), (150, .cells [.p (.int .i64 0)] 0), (0, .map kJ), (3000, .arr 126 2 (z.kn.map pSp) false), (3010, .arr 86 3 (z.rs.map pRc) false)]) (fun _ (_ : Chn) _ => False) (fun _ _ => []) (fun _ (_ : Chn) _ => False) (fun _ z => [(130, .cells [.p (.fn (.func 120) [] []), .map 0, .p (.fn (.func 124) [] [])] 0), (140, .cells [.p (.int .i64 z.pl), .p (.int .i64 z.ps), .own 3000 z.kn.length, .own 3010 z.rs.length, .p (.int .i64 z.ms)] 0), (150, .cells [.p (.int .i64 0)] 0), (0, .map kJ), (3000, .arr 126 2 (z.kn.map pSp) false), (3010, .arr 86 3 (z.rs.map pRc) false)]) [] [.k] (it := yC s (by omega) hs) (hent := yB) (xs := []) (tail := some (.iface 218 (.agg [.int .i64 8]))) (pan := true) (hlen := fun x hx => by cases hx) (hshp := fun x hx => by cases hx) (h0 := ?_) (round := fun k z A1 x hI hx lp bs C1 hN1 hL1 => ?_) (hK := fun e z A1 hK => ?_) (hP := fun p z A1 hP => ?_) (hT := fun p z A1 ht hT => ?_) (hI := fun z A1 ht hI => ?_)
 ·exact ⟨Chn.z, ⟨rfl, rfl⟩, rfl⟩
 ·cases hx
 ·exact hK.elim
 ·exact hP.elim
 ·cases ht
  obtain ⟨rfl, rfl⟩ := hT
  repeat (first | refine aO ?_ | refine aN ?_)
  refine bP ?_
  try refine om (h3 := by simp [bM, dD, G.idl, G.idls, cL, aE, aI]) ?_
  refine eY [150, 140, 3000, 3010] [(0, 150), (1, 140), (2, 3000), (3, 3010)] (spec := aEt 8 (by omega) (.int .i64 Chn.z.pl) (.int .i64 Chn.z.ps) (.int .i64 Chn.z.ms) Chn.z.kn.length (Chn.z.kn.map pSp) Chn.z.rs.length (Chn.z.rs.map pRc)) (hent := aBk) ?_
  refine cV ?_
  refine fk2 [0] ?_
  rw [aLU (aDe hs)]
  rfl
 ·cases ht
theorem aFO (s : Str) (x : P) (h : s.length ≤ 4096) (hx : rdC s = x) : Gh.bE E 64 [.p (.str s), .agg [.p (.fn (.func 120) [] []), .map 0, .p (.fn (.func 124) [] [])]] (aG [(0, .map kJ)]) A (fun y => y = .ok (.p x) (aG [(0, .map kJ)]) A) := by
 subst hx
 cases hs : Lib.hasSuffix s [10] with
 | true => exact aFM s h hs
 | false => exact aFN s h hs
theorem aJ7 {s : Str} {p : Chn} (h : wS s = some p) : rdC s = .tuple [nG p, .int .i64 0] := by unfold rdC; rw [h]
theorem aOD : aJ Tryz.prog 26 := aJ.mk Tryz.func26 (by kernel_rfl) rfl
theorem aHY (s : Str) (p : Chn) (h : s.length ≤ 4096) (hr : wS s = some p) : bZ Tryz.prog 26 [.str s] (.ok (.tuple [nG p, .int .i64 0])) := by
 refine bS Tryz.func26 (rfl : Tryz.f26.body = some _) rfl ?_
 intro E A C hN hL
 replace hN : C.N = 9 := hN
 simp only [Gh.num, List.map_cons, List.map_nil, Nat.reduceAdd]
 unfold nG
 repeat apply aA
 apply aB
 refine n1 120 false (hc := aBD.h {}) ?_
 refine v0 ?_
 apply aC
 refine cl [0, 2] ?_
 repeat apply aA
 apply aB
 refine v0 ?_
 refine oc0 [(120, 2000)] [] [] none (spec := aEy) (hent := aLM) ?_
 refine oc0 [(0, 2000)] [] [0, 0] none (spec := aFO s _ h (aJ7 hr)) (hent := aOC) ?_
 iterate 2 refine v0 ?_
 refine s1 (hc := aBD.h {}) ?_
 refine v0 ?_
 apply aC
 repeat apply aA
 refine aL ?_
 repeat (first | refine aH ?_ | refine aF ?_ | refine aD ?_)
 refine aM ?_
 refine fp2 ?_
 rfl
end
section
open Go.Gh
variable {E : Env Tryz.prog} {A : E.α}
structure zY (c : Prop) : Prop where
 h : c := by (first | exact True.intro | omega | (simp only [inI]; omega) | (simp [P.size, bR, bF, bN, bB, cR, good, G.one, P.one, P.cells] <;> first | omega | assumption | simp_all))
def aJ8 : TI := ⟨.func #[164] #[166] false, 1, 8, [.p .nilfn], false⟩
theorem aLW : eL (eV aJ8) (cO (geq Tryz.prog 6 9) (.str [109, 101, 97, 115, 117, 114, 101]) (gZ 2)) = some (true, .p (.fn (.func 98) [] [])) := by simp [gZ, yP, List.cons_append, List.nil_append, cO, cX]; rfl
theorem aLX : eL (eV aJ8) (cO (geq Tryz.prog 6 9) (.str [116, 117, 114, 110]) (gZ 2)) = some (true, .p (.fn (.func 101) [] [])) := by simp [gZ, yP, List.cons_append, List.nil_append, cO, cX]; rfl
theorem aLY : eL (eV aJ8) (cO (geq Tryz.prog 6 9) (.str [112, 108, 97, 105, 110]) (gZ 2)) = some (true, .p (.fn (.func 103) [] [.ptr [.int .i64 0]])) := by simp [gZ, yP, List.cons_append, List.nil_append, cO, cX]; rfl
theorem aLZ : eL (eV aJ8) (cO (geq Tryz.prog 6 9) (.str [114, 101, 118, 101, 114, 115, 101, 100]) (gZ 2)) = some (true, .p (.fn (.func 103) [] [.ptr [.int .i64 1]])) := by simp [gZ, yP, List.cons_append, List.nil_append, cO, cX]; rfl
theorem aOE {w : Str} (h1 : w ≠ [109, 101, 97, 115, 117, 114, 101]) (h2 : w ≠ [116, 117, 114, 110]) (h3 : w ≠ [112, 108, 97, 105, 110]) (h4 : w ≠ [114, 101, 118, 101, 114, 115, 101, 100]) : eL (eV aJ8) (cO (geq Tryz.prog 6 9) (.str w) (gZ 2)) = some (false, .p .nilfn) := by simp [gZ, yP, List.cons_append, List.nil_append, cO, cX, h1, h2, h3, h4]; rfl
theorem xB (w : Str) : jG (geq Tryz.prog 6 9) (.str w) (gZ 2) := by
 simp only [jG, gZ, yP, cX, Option.isSome_some, true_and, Option.some.injEq, decide_eq_true_eq]
 intro x hx
 simp only [List.cons_append, List.nil_append, List.mem_cons, List.not_mem_nil, or_false] at hx
 rcases hx with rfl | rfl | rfl | rfl <;> simp [cX] <;> exact fun h => h.symm
theorem aNJ : iK Tryz.prog 168 "zoneworks/book.put" = some 229 := by kernel_rfl
theorem aNK : iK Tryz.prog 171 "zoneworks/book.put" = some 230 := by kernel_rfl
theorem aJ9 : iK Tryz.prog 172 "zoneworks/book.put" = some 231 := by kernel_rfl
theorem aHZ (z : Msr) (w : Str) (r : List Str) : (w = [109, 101, 97, 115, 117, 114, 101] ∧ ∃ h, wO r = some h ∧ dO z (w :: r) = some ({ z with im := h.1, su := h.2.1, ey := h.2.2 } : Msr)) ∨ (w = [109, 101, 97, 115, 117, 114, 101] ∧ wO r = none ∧ dO z (w :: r) = none) ∨
  (w = [116, 117, 114, 110] ∧ ∃ u v, dB r = some (u, v) ∧ dO z (w :: r) = some ({ z with er := z.er ++ [(u, v)] } : Msr)) ∨ (w = [116, 117, 114, 110] ∧ dB r = none ∧ dO z (w :: r) = none) ∨
  (w = [112, 108, 97, 105, 110] ∧ ∃ x, wQ r false = some x ∧ dO z (w :: r) = some ({ z with se := z.se ++ [x] } : Msr)) ∨ (w = [112, 108, 97, 105, 110] ∧ wQ r false = none ∧ dO z (w :: r) = none) ∨
  (w = [114, 101, 118, 101, 114, 115, 101, 100] ∧ ∃ x, wQ r true = some x ∧ dO z (w :: r) = some ({ z with se := z.se ++ [x] } : Msr)) ∨ (w = [114, 101, 118, 101, 114, 115, 101, 100] ∧ wQ r true = none ∧ dO z (w :: r) = none) ∨
  ((w ≠ [109, 101, 97, 115, 117, 114, 101] ∧ w ≠ [116, 117, 114, 110] ∧ w ≠ [112, 108, 97, 105, 110] ∧ w ≠ [114, 101, 118, 101, 114, 115, 101, 100]) ∧ dO z (w :: r) = none) := by
 by_cases h1 : w = [109, 101, 97, 115, 117, 114, 101]
 ·subst h1
  cases e : wO r with
  | some h => exact .inl ⟨rfl, h, rfl, by simp [dO, e]⟩
  | none => exact .inr (.inl ⟨rfl, rfl, by simp [dO, e]⟩)
 ·by_cases h2 : w = [116, 117, 114, 110]
  ·subst h2
   cases e : dB r with
   | some h => exact .inr (.inr (.inl ⟨rfl, h.1, h.2, rfl, by simp [dO, e]⟩))
   | none => exact .inr (.inr (.inr (.inl ⟨rfl, rfl, by simp [dO, e]⟩)))
  ·by_cases h3 : w = [112, 108, 97, 105, 110]
   ·subst h3
    cases e : wQ r false with
    | some h => exact .inr (.inr (.inr (.inr (.inl ⟨rfl, h, rfl, by simp [dO, e]⟩))))
    | none => exact .inr (.inr (.inr (.inr (.inr (.inl ⟨rfl, rfl, by simp [dO, e]⟩)))))
   ·by_cases h4 : w = [114, 101, 118, 101, 114, 115, 101, 100]
    ·subst h4
     cases e : wQ r true with
     | some h => exact .inr (.inr (.inr (.inr (.inr (.inr (.inl ⟨rfl, h, rfl, by simp [dO, e]⟩))))))
     | none => exact .inr (.inr (.inr (.inr (.inr (.inr (.inr (.inl ⟨rfl, rfl, by simp [dO, e]⟩)))))))
    ·exact .inr (.inr (.inr (.inr (.inr (.inr (.inr (.inr ⟨⟨h1, h2, h3, h4⟩, by simp [dO, h1, h2, h3, h4]⟩)))))))
def rdM (s : Str) : P := match sQ s with
 | some p => .tuple [jT p, .int .i64 0]
 | none => .tuple [jT Msr.z, .int .i64 8]
theorem aL0 {s : Str} (h : dW dO Msr.z s = none) : rdM s = .tuple [jT Msr.z, .int .i64 8] := by unfold rdM sQ; rw [h]
theorem aL1 {s : Str} {p : Msr} (h : dW dO Msr.z s = some p) (h2 : p.valid = false ∨ txt (gK p) ≠ s) : rdM s = .tuple [jT Msr.z, .int .i64 8] := by
 unfold rdM sQ
 rw [h]
 rcases h2 with h2 | h2 <;> simp [h2]
theorem aOF {s : Str} {p : Msr} (h : dW dO Msr.z s = some p) (h1 : p.valid = true) (h2 : txt (gK p) = s) : rdM s = .tuple [jT p, .int .i64 0] := by
 unfold rdM sQ
 rw [h]
 simp [h1, h2]
theorem aL2 : aJ Tryz.prog 54 := aJ.mk Tryz.func54 (by kernel_rfl) rfl
theorem aFP (s : Str) (h : s.length ≤ 4096) (hs : Lib.hasSuffix s [10] = true) : Gh.bE E 54 [.p (.str s), .agg [.p (.fn (.func 95) [] []), .map 0, .p (.fn (.func 102) [] [])]] (aG [(0, .map (gZ 2))]) A (fun y => y = .ok (.p (rdM s)) (aG [(0, .map (gZ 2))]) A) := by
 refine kW Tryz.func54 (rfl : Tryz.f54.body = some _) (Nat.le_of_ble_eq_true rfl) (fun id h => ?_) (fun j id h => ?_) ?_
 ·exact nD h
 ·exact nE h
 intro C hN hL
 replace hN : C.N = 48 := hN
 simp only [Gh.num, List.map_cons, List.map_nil, Nat.reduceAdd]
 repeat apply aX
 refine bO ?_
 apply aB
 refine n1 130 false (hc := zY.h {}) ?_
 refine n1 140 false (hc := zY.h {}) ?_
 refine n1 150 false (hc := zY.h {}) ?_
 apply aC
 refine xcl [0, 3, 4, 5] ?_
 repeat apply aX
 refine bO ?_
 apply aB
 refine v0 ?_
 refine df0 ?_
 apply aC
 refine xcl [0, 3, 4, 5] ?_
 repeat apply aX
 refine bO ?_
 refine ad 140 0 3000 24 2 false ?_
 refine ad 140 6 3010 81 3 false ?_
 apply aB
 iterate 3 refine v0 ?_
 refine rb 14 true (h := by (first | with_reducible rfl | exact decide_eq_true (by omega) | rfl | decide)) ?_
 refine pc0 (spec := bG _) (hent := bX) ?_
 apply aC
 refine xcl [0, 3, 4, 5] ?_
 repeat apply aX
 refine bO ?_
 apply aB
 refine v0 ?_
 refine oc0 [] [] [0] none (spec := iY s) (hent := yA) ?_
 apply aC
 refine xcl [0, 3, 4, 5, 17] ?_
 repeat apply aX
 refine iN ?_
 repeat apply aX
 refine rfY 10000 99001 [18] (fun k (z : Msr) A1 => run dO ((bQ s).take k) Msr.z = some z ∧ z.er.length ≤ k ∧ z.se.length ≤ k ∧ A1 = A) (fun z => [(130, .cells [.p (.fn (.func 95) [] []), .map 0, .p (.fn (.func 102) [] [])] 0), (140, .cells [.own 3000 z.er.length, .p (.int .i64 z.ey.1), .p (.int .i64 z.ey.2), .p (.int .i64 z.im), .p (.int .i64 z.su.1), .p (.int .i64 z.su.2), .own 3010 z.se.length] 0), (150, .cells [.p (.int .i64 0)] 0), (0, .map (gZ 2)), (3000, .arr 24 2 (z.er.map pSp) false), (3010, .arr 81 3 (z.se.map fS) false)]) (fun _ (_ : Msr) _ => False) (fun _ _ => []) (fun p (_ : Msr) A1 => p = .iface 218 (.agg [.int .i64 8]) ∧ dW dO Msr.z s = none ∧ A1 = A) (fun _ z => [(130, .cells [.p (.fn (.func 95) [] []), .map 0, .p (.fn (.func 102) [] [])] 0), (140, .cells [.own 3000 z.er.length, .p (.int .i64 z.ey.1), .p (.int .i64 z.ey.2), .p (.int .i64 z.im), .p (.int .i64 z.su.1), .p (.int .i64 z.su.2), .own 3010 z.se.length] 0), (150, .cells [.p (.int .i64 0)] 0), (0, .map (gZ 2)), (3000, .arr 24 2 (z.er.map pSp) false), (3010, .arr 81 3 (z.se.map fS) false)]) [] [.k] (it := aCU s (by omega) hs) (hent := yB) (xs := pls s) (tail := none) (pan := true) (hlen := fun x hx => by obtain ⟨w, _, rfl⟩ := List.mem_map.1 hx; rfl) (hshp := fun x hx => by obtain ⟨w, _, rfl⟩ := List.mem_map.1 hx; exact .inr ⟨_, rfl⟩) (h0 := ?_) (round := fun k z A1 x hI hx lp bs C1 hN1 hL1 => ?_) (hK := fun e z A1 hK => ?_) (hP := fun p z A1 hP => ?_) (hT := fun p z A1 ht hT => ?_) (hI := fun z A1 ht hI => ?_)
 ·exact ⟨Msr.z, ⟨rfl, Nat.zero_le _, Nat.zero_le _, rfl⟩, rfl⟩
 ·obtain ⟨hz, hzler, hzlse, rfl⟩ := hI
  obtain ⟨ln, hln, rfl⟩ := aDf hx
  have hll : ln.length ≤ 4096 := by have := oG s ln (List.mem_of_getElem? hln); omega
  have hkl : k < (bQ s).length := (List.getElem?_eq_some_iff.1 hln).1
  have hln2 := kK s
  replace hN1 : C1.N = 48 := hN1.trans hN
  refine (?_ : gwp C1 (some lp) _ _ (sg ((18, .ref 95000 0) :: _) [(95000, .cells [.p (bT (gV ln))] 0), (130, .cells [.p (.fn (.func 95) [] []), .map 0, .p (.fn (.func 102) [] [])] 0), (140, .cells [.own 3000 z.er.length, .p (.int .i64 z.ey.1), .p (.int .i64 z.ey.2), .p (.int .i64 z.im), .p (.int .i64 z.su.1), .p (.int .i64 z.su.2), .own 3010 z.se.length] 0), (150, .cells [.p (.int .i64 0)] 0), (0, .map (gZ 2)), (3000, .arr 24 2 (z.er.map pSp) false), (3010, .arr 81 3 (z.se.map fS) false)] A1 []))
  repeat apply aA
  apply aB
  refine v0 ?_
  apply aC
  refine ⟨rfl, fun bs2 C2 hN2 hL2 hr2 => ?_⟩
  replace hN2 : C2.N = 48 := hN2.trans hN
  refine (?_ : gwp C2 (some lp) _ _ (sg _ _ _ []))
  repeat apply aA
  refine aP ?_
  repeat apply aA
  obtain ⟨w, r, hwr⟩ := aC2 ln
  have hsr : cE r := fun x hx => vL (ln := ln) (by omega) x (by rw [hwr]; exact List.mem_cons_of_mem _ hx)
  have hrl : r.length ≤ 100000 := by have h1 := aBo ln; rw [hwr] at h1; simp only [List.length_cons] at h1; omega
  rw [hwr]
  rcases aHZ z w r with ⟨rfl, h1, hsp, hst⟩ | ⟨rfl, hsp, hst⟩ | ⟨rfl, u, v, hsp, hst⟩ | ⟨rfl, hsp, hst⟩ | ⟨rfl, x, hsp, hst⟩ | ⟨rfl, hsp, hst⟩ | ⟨rfl, x, hsp, hst⟩ | ⟨rfl, hsp, hst⟩ | ⟨⟨hw1, hw2, hw3, hw4⟩, hst⟩
  ·have hstep : run dO ((bQ s).take (k + 1)) Msr.z = some (({ z with im := h1.1, su := h1.2.1, ey := h1.2.2 } : Msr)) := by rw [iG hz hln, hwr]; exact hst
   repeat apply aA
   refine rd ?_
   refine d0 0 ?_
   refine d0 1 ?_
   refine d0 2 ?_
   refine eO 3 [(0, 95000)] [] [0] none (spec := cN [109, 101, 97, 115, 117, 114, 101] r) (hent := dL) ?_
   refine dl 4 (hv := aLW) (hkk := xB _) ?_
   refine d0 5 ?_
   refine d0 6 ?_
   refine d0 7 ?_
   refine d0 8 ?_
   refine d0 9 ?_
   refine dz 10 [0, 1, 0, 4, 15, 31, 63, 63, 127, 511] ?_
   refine de 10 ?_
   refine cl [0, 3, 4, 5, 6, 7, 8] ?_
   repeat apply aA
   apply aB
   refine v0 ?_
   refine pc0 (spec := bG _) (hent := bX) ?_
   apply aC
   refine cl [0, 3, 4, 5, 6, 7] ?_
   repeat apply aA
   apply aB
   iterate 2 refine v0 ?_
   refine oc0 [(0, 95000)] [] [0] none (spec := aJO r h1 hsr hsp) (hent := aLJ) ?_
   refine oc0 [(0, 140), (1, 3000), (2, 3010)] [] [0, 0] none (spec := aHS (.int .i64 z.ey.1) (.int .i64 z.ey.2) (.int .i64 z.im) (.int .i64 z.su.1) (.int .i64 z.su.2) rfl rfl rfl rfl rfl z.er z.se h1.1 h1.2.1.1 h1.2.1.2 h1.2.2.1 h1.2.2.2) (hent := aNx) (hg := by (simp only [cH, gev, aT, Nat.reduceEqDiff, reduceIte, aNJ] <;> rfl)) ?_
   apply aC
   refine ⟨_, ({ z with im := h1.1, su := h1.2.1, ey := h1.2.2 } : Msr), lc [130, 140, 150, 0, 3000, 3010], rfl, ?_, ?_, ?_, rfl⟩
   ·exact hstep
   ·(try simp only [List.length_append, List.length_cons, List.length_nil]); omega
   ·(try simp only [List.length_append, List.length_cons, List.length_nil]); omega
  ·have hnone : dW dO Msr.z s = none := by rw [fY hs]; exact fT hz hln (by rw [hwr]; exact hst)
   repeat apply aA
   refine rd ?_
   refine d0 0 ?_
   refine d0 1 ?_
   refine d0 2 ?_
   refine eO 3 [(0, 95000)] [] [0] none (spec := cN [109, 101, 97, 115, 117, 114, 101] r) (hent := dL) ?_
   refine dl 4 (hv := aLW) (hkk := xB _) ?_
   refine d0 5 ?_
   refine d0 6 ?_
   refine d0 7 ?_
   refine d0 8 ?_
   refine d0 9 ?_
   refine dz 10 [0, 1, 0, 4, 15, 31, 63, 63, 127, 511] ?_
   refine de 10 ?_
   refine cl [0, 3, 4, 5, 6, 7, 8] ?_
   repeat apply aA
   apply aB
   refine v0 ?_
   refine pc0 (spec := bG _) (hent := bX) ?_
   apply aC
   refine cl [0, 3, 4, 5, 6, 7] ?_
   repeat apply aA
   apply aB
   iterate 2 refine v0 ?_
   refine op0 [(0, 95000)] [] [0] none (spec := aJP r hsr hsp) (hent := aLJ) ?_
   repeat (first | refine aO ?_ | refine aN ?_ | refine aW ?_)
   exact ⟨rfl, z, zT [130, 140, 150, 0, 3000, 3010], rfl, hnone, rfl⟩
  ·have hstep : run dO ((bQ s).take (k + 1)) Msr.z = some (({ z with er := z.er ++ [(u, v)] } : Msr)) := by rw [iG hz hln, hwr]; exact hst
   repeat apply aA
   refine rd ?_
   refine d0 0 ?_
   refine d0 1 ?_
   refine d0 2 ?_
   refine eO 3 [(0, 95000)] [] [0] none (spec := cN [116, 117, 114, 110] r) (hent := dL) ?_
   refine dl 4 (hv := aLX) (hkk := xB _) ?_
   refine d0 5 ?_
   refine d0 6 ?_
   refine d0 7 ?_
   refine d0 8 ?_
   refine d0 9 ?_
   refine dz 10 [0, 1, 0, 4, 15, 31, 63, 63, 127, 511] ?_
   refine de 10 ?_
   refine cl [0, 3, 4, 5, 6, 7, 8] ?_
   repeat apply aA
   apply aB
   refine v0 ?_
   refine pc0 (spec := bG _) (hent := bX) ?_
   apply aC
   refine cl [0, 3, 4, 5, 6, 7] ?_
   repeat apply aA
   apply aB
   iterate 2 refine v0 ?_
   refine oc0 [(0, 95000)] [] [0] none (spec := aHy r u v hsr hsp) (hent := aJM) ?_
   refine oc0 [(0, 140), (1, 3000), (2, 3010)] [] [0, 0] none (spec := aHT (.int .i64 z.ey.1) (.int .i64 z.ey.2) (.int .i64 z.im) (.int .i64 z.su.1) (.int .i64 z.su.2) rfl rfl rfl rfl rfl z.er z.se (u, v) (by omega)) (hent := aNy) (hg := by (simp only [cH, gev, aT, Nat.reduceEqDiff, reduceIte, aNK] <;> rfl)) ?_
   apply aC
   refine ⟨_, ({ z with er := z.er ++ [(u, v)] } : Msr), lc [130, 140, 150, 0, 3000, 3010], rfl, ?_, ?_, ?_, rfl⟩
   ·exact hstep
   ·(try simp only [List.length_append, List.length_cons, List.length_nil]); omega
   ·(try simp only [List.length_append, List.length_cons, List.length_nil]); omega
  ·have hnone : dW dO Msr.z s = none := by rw [fY hs]; exact fT hz hln (by rw [hwr]; exact hst)
   repeat apply aA
   refine rd ?_
   refine d0 0 ?_
   refine d0 1 ?_
   refine d0 2 ?_
   refine eO 3 [(0, 95000)] [] [0] none (spec := cN [116, 117, 114, 110] r) (hent := dL) ?_
   refine dl 4 (hv := aLX) (hkk := xB _) ?_
   refine d0 5 ?_
   refine d0 6 ?_
   refine d0 7 ?_
   refine d0 8 ?_
   refine d0 9 ?_
   refine dz 10 [0, 1, 0, 4, 15, 31, 63, 63, 127, 511] ?_
   refine de 10 ?_
   refine cl [0, 3, 4, 5, 6, 7, 8] ?_
   repeat apply aA
   apply aB
   refine v0 ?_
   refine pc0 (spec := bG _) (hent := bX) ?_
   apply aC
   refine cl [0, 3, 4, 5, 6, 7] ?_
   repeat apply aA
   apply aB
   iterate 2 refine v0 ?_
   refine op0 [(0, 95000)] [] [0] none (spec := aHz r hsr hsp) (hent := aJM) ?_
   repeat (first | refine aO ?_ | refine aN ?_ | refine aW ?_)
   exact ⟨rfl, z, zT [130, 140, 150, 0, 3000, 3010], rfl, hnone, rfl⟩
  ·have hstep : run dO ((bQ s).take (k + 1)) Msr.z = some (({ z with se := z.se ++ [x] } : Msr)) := by rw [iG hz hln, hwr]; exact hst
   repeat apply aA
   refine rd ?_
   refine d0 0 ?_
   refine d0 1 ?_
   refine d0 2 ?_
   refine eO 3 [(0, 95000)] [] [0] none (spec := cN [112, 108, 97, 105, 110] r) (hent := dL) ?_
   refine dl 4 (hv := aLY) (hkk := xB _) ?_
   refine d0 5 ?_
   refine d0 6 ?_
   refine d0 7 ?_
   refine d0 8 ?_
   refine d0 9 ?_
   refine dz 10 [0, 1, 0, 4, 15, 31, 63, 63, 127, 511] ?_
   refine de 10 ?_
   refine cl [0, 3, 4, 5, 6, 7, 8] ?_
   repeat apply aA
   apply aB
   refine v0 ?_
   refine pc0 (spec := bG _) (hent := bX) ?_
   apply aC
   refine cl [0, 3, 4, 5, 6, 7] ?_
   repeat apply aA
   apply aB
   iterate 2 refine v0 ?_
   refine oc0 [(0, 95000)] [] [0, 0] none (spec := aGv r 0 x hsr hsp) (hent := aDd) ?_
   refine oc0 [(0, 140), (1, 3000), (2, 3010)] [] [0, 0] none (spec := aEw (.int .i64 z.ey.1) (.int .i64 z.ey.2) (.int .i64 z.im) (.int .i64 z.su.1) (.int .i64 z.su.2) rfl rfl rfl rfl rfl z.er z.se x (by omega)) (hent := aJ3) (hg := by (simp only [cH, gev, aT, Nat.reduceEqDiff, reduceIte, aJ9] <;> rfl)) ?_
   apply aC
   refine ⟨_, ({ z with se := z.se ++ [x] } : Msr), lc [130, 140, 150, 0, 3000, 3010], rfl, ?_, ?_, ?_, rfl⟩
   ·exact hstep
   ·(try simp only [List.length_append, List.length_cons, List.length_nil]); omega
   ·(try simp only [List.length_append, List.length_cons, List.length_nil]); omega
  ·have hnone : dW dO Msr.z s = none := by rw [fY hs]; exact fT hz hln (by rw [hwr]; exact hst)
   repeat apply aA
   refine rd ?_
   refine d0 0 ?_
   refine d0 1 ?_
   refine d0 2 ?_
   refine eO 3 [(0, 95000)] [] [0] none (spec := cN [112, 108, 97, 105, 110] r) (hent := dL) ?_
   refine dl 4 (hv := aLY) (hkk := xB _) ?_
   refine d0 5 ?_
   refine d0 6 ?_
   refine d0 7 ?_
   refine d0 8 ?_
   refine d0 9 ?_
   refine dz 10 [0, 1, 0, 4, 15, 31, 63, 63, 127, 511] ?_
   refine de 10 ?_
   refine cl [0, 3, 4, 5, 6, 7, 8] ?_
   repeat apply aA
   apply aB
   refine v0 ?_
   refine pc0 (spec := bG _) (hent := bX) ?_
   apply aC
   refine cl [0, 3, 4, 5, 6, 7] ?_
   repeat apply aA
   apply aB
   iterate 2 refine v0 ?_
   refine op0 [(0, 95000)] [] [0, 0] none (spec := aGw r 0 false hsr hsp) (hent := aDd) ?_
   repeat (first | refine aO ?_ | refine aN ?_ | refine aW ?_)
   exact ⟨rfl, z, zT [130, 140, 150, 0, 3000, 3010], rfl, hnone, rfl⟩
  ·have hstep : run dO ((bQ s).take (k + 1)) Msr.z = some (({ z with se := z.se ++ [x] } : Msr)) := by rw [iG hz hln, hwr]; exact hst
   repeat apply aA
   refine rd ?_
   refine d0 0 ?_
   refine d0 1 ?_
   refine d0 2 ?_
   refine eO 3 [(0, 95000)] [] [0] none (spec := cN [114, 101, 118, 101, 114, 115, 101, 100] r) (hent := dL) ?_
   refine dl 4 (hv := aLZ) (hkk := xB _) ?_
   refine d0 5 ?_
   refine d0 6 ?_
   refine d0 7 ?_
   refine d0 8 ?_
   refine d0 9 ?_
   refine dz 10 [0, 1, 0, 4, 15, 31, 63, 63, 127, 511] ?_
   refine de 10 ?_
   refine cl [0, 3, 4, 5, 6, 7, 8] ?_
   repeat apply aA
   apply aB
   refine v0 ?_
   refine pc0 (spec := bG _) (hent := bX) ?_
   apply aC
   refine cl [0, 3, 4, 5, 6, 7] ?_
   repeat apply aA
   apply aB
   iterate 2 refine v0 ?_
   refine oc0 [(0, 95000)] [] [0, 0] none (spec := aGv r 1 x hsr hsp) (hent := aDd) ?_
   refine oc0 [(0, 140), (1, 3000), (2, 3010)] [] [0, 0] none (spec := aEw (.int .i64 z.ey.1) (.int .i64 z.ey.2) (.int .i64 z.im) (.int .i64 z.su.1) (.int .i64 z.su.2) rfl rfl rfl rfl rfl z.er z.se x (by omega)) (hent := aJ3) (hg := by (simp only [cH, gev, aT, Nat.reduceEqDiff, reduceIte, aJ9] <;> rfl)) ?_
   apply aC
   refine ⟨_, ({ z with se := z.se ++ [x] } : Msr), lc [130, 140, 150, 0, 3000, 3010], rfl, ?_, ?_, ?_, rfl⟩
   ·exact hstep
   ·(try simp only [List.length_append, List.length_cons, List.length_nil]); omega
   ·(try simp only [List.length_append, List.length_cons, List.length_nil]); omega
  ·have hnone : dW dO Msr.z s = none := by rw [fY hs]; exact fT hz hln (by rw [hwr]; exact hst)
   repeat apply aA
   refine rd ?_
   refine d0 0 ?_
   refine d0 1 ?_
   refine d0 2 ?_
   refine eO 3 [(0, 95000)] [] [0] none (spec := cN [114, 101, 118, 101, 114, 115, 101, 100] r) (hent := dL) ?_
   refine dl 4 (hv := aLZ) (hkk := xB _) ?_
   refine d0 5 ?_
   refine d0 6 ?_
   refine d0 7 ?_
   refine d0 8 ?_
   refine d0 9 ?_
   refine dz 10 [0, 1, 0, 4, 15, 31, 63, 63, 127, 511] ?_
   refine de 10 ?_
   refine cl [0, 3, 4, 5, 6, 7, 8] ?_
   repeat apply aA
   apply aB
   refine v0 ?_
   refine pc0 (spec := bG _) (hent := bX) ?_
   apply aC
   refine cl [0, 3, 4, 5, 6, 7] ?_
   repeat apply aA
   apply aB
   iterate 2 refine v0 ?_
   refine op0 [(0, 95000)] [] [0, 0] none (spec := aGw r 1 true hsr hsp) (hent := aDd) ?_
   repeat (first | refine aO ?_ | refine aN ?_ | refine aW ?_)
   exact ⟨rfl, z, zT [130, 140, 150, 0, 3000, 3010], rfl, hnone, rfl⟩
  ·have hnone : dW dO Msr.z s = none := by rw [fY hs]; exact fT hz hln (by rw [hwr]; exact hst)
   repeat apply aA
   refine rd ?_
   refine d0 0 ?_
   refine d0 1 ?_
   refine d0 2 ?_
   refine eO 3 [(0, 95000)] [] [0] none (spec := cN w r) (hent := dL) ?_
   refine dl 4 (hv := aOE hw1 hw2 hw3 hw4) (hkk := xB _) ?_
   refine d0 5 ?_
   refine d0 6 ?_
   refine d0 7 ?_
   refine d0 8 ?_
   refine d0 9 ?_
   refine dz 10 [0, 1, 0, 4, 15, 31, 63, 63, 127, 511] ?_
   refine de 10 ?_
   refine cl [0, 3, 4, 5, 6, 7, 8] ?_
   repeat apply aA
   apply aB
   refine v0 ?_
   refine pp0 (spec := dE _) (hent := bX) ?_
   repeat (first | refine aO ?_ | refine aN ?_ | refine aW ?_)
   exact ⟨rfl, z, zT [130, 140, 150, 0, 3000, 3010], rfl, hnone, rfl⟩
 ·exact hK.elim
 ·obtain ⟨rfl, hn, rfl⟩ := hP
  repeat (first | refine aO ?_ | refine aN ?_)
  refine bP ?_
  try refine om (h3 := by simp [bM, dD, G.idl, G.idls, cL, aE, aI]) ?_
  refine eY [150, 140, 3000, 3010] [(0, 150), (1, 140), (2, 3000), (3, 3010)] (spec := aEr 8 (by omega) (.int .i64 z.ey.1) (.int .i64 z.ey.2) (.int .i64 z.im) (.int .i64 z.su.1) (.int .i64 z.su.2) z.er.length (z.er.map pSp) z.se.length (z.se.map fS)) (hent := aA0) ?_
  refine cV ?_
  refine fk2 [0] ?_
  rw [aL0 hn]
  rfl
 ·cases ht
 ·obtain ⟨hz, hzler, hzlse, rfl⟩ := hI
  rw [List.length_map, List.take_length] at hz
  rw [List.length_map] at hzler hzlse
  have hln2 := kK s
  have hrr : dW dO Msr.z s = some z := (fY hs).trans hz
  refine xcl [0, 3, 4, 5] ?_
  repeat apply aX
  refine bO ?_
  refine pL 3000 (by (simp only [aE, aI, Nat.reduceEqDiff, reduceIte] <;> rfl)) ?_
  refine pL 3010 (by (simp only [aE, aI, Nat.reduceEqDiff, reduceIte] <;> rfl)) ?_
  refine nC 140 0 .p (by (simp only [aE, aI, Nat.reduceEqDiff, reduceIte] <;> rfl)) (by rfl) (by simp only [cvS, toP, aE, aI, Nat.reduceEqDiff, reduceIte] <;> rfl) (by simp) rfl (by simp only [List.set_cons_zero, List.set_cons_succ] <;> rfl) ?_
  refine nC 140 6 .p (by (simp only [aE, aI, Nat.reduceEqDiff, reduceIte] <;> rfl)) (by rfl) (by simp only [cvS, toP, aE, aI, Nat.reduceEqDiff, reduceIte] <;> rfl) (by simp) rfl (by simp only [List.set_cons_zero, List.set_cons_succ] <;> rfl) ?_
  have hpl : jT z = .agg [.list (z.er.map pSp), .int .i64 z.ey.1, .int .i64 z.ey.2, .int .i64 z.im, .int .i64 z.su.1, .int .i64 z.su.2, .list (z.se.map fS)] := rfl
  have hcase : (z.valid = true ∧ txt (gK z) = s) ∨ (z.valid = true ∧ txt (gK z) ≠ s) ∨ z.valid = false := by
   cases z.valid with
   | false => exact .inr (.inr rfl)
   | true =>
        by_cases h2 : txt (gK z) = s
        ·exact .inl ⟨rfl, h2⟩
        ·exact .inr (.inl ⟨rfl, h2⟩)
  rcases hcase with ⟨hv, ht⟩ | ⟨hv, ht⟩ | hv
  ·apply aB
   iterate 2 refine v0 ?_
   refine oc0 [(0, 0)] [] [0, 0] none (spec := rB z hv (gZ 2)) (hent := aGe) ?_
   iterate 5 refine v0 ?_
   apply aC
   refine xcl [0, 3, 4, 5, 9, 10] ?_
   repeat apply aX
   refine bO ?_
   apply aB
   iterate 2 refine v0 ?_
   refine rb 40 true (h := by (first | with_reducible rfl | exact decide_eq_true (by omega) | rfl | decide)) ?_
   refine v0 ?_
   iterate 3 refine w0 ?_
   refine rb 44 true (h := by (first | exact decide_eq_true ht | simp [ht])) ?_
   refine v0 ?_
   refine rb 45 true (h := by (first | with_reducible rfl | exact decide_eq_true (by omega) | rfl | decide)) ?_
   refine pc0 (spec := bG _) (hent := bX) ?_
   apply aC
   refine xcl [3, 4, 5] ?_
   repeat apply aX
   refine bO ?_
   apply aB
   refine v0 ?_
   iterate 2 refine s1 (hc := zY.h {}) ?_
   apply aC
   repeat apply aX
   refine bO ?_
   refine aL ?_
   repeat (first | refine aH ?_ | refine aF ?_ | refine aD ?_)
   refine tE ?_
   try refine om (h3 := by simp [bM, dD, G.idl, G.idls, cL, aE, aI]) ?_
   refine eY [150, 140] [(0, 150), (1, 140)] (spec := aG8 (.list (z.er.map pSp)) (.int .i64 z.ey.1) (.int .i64 z.ey.2) (.int .i64 z.im) (.int .i64 z.su.1) (.int .i64 z.su.2) (.list (z.se.map fS))) (hent := aA0) ?_
   refine cV ?_
   refine fk2 [0] ?_
   rw [aOF hrr hv ht]
   rfl
  ·apply aB
   iterate 2 refine v0 ?_
   refine oc0 [(0, 0)] [] [0, 0] none (spec := rB z hv (gZ 2)) (hent := aGe) ?_
   iterate 5 refine v0 ?_
   apply aC
   refine xcl [0, 3, 4, 5, 9, 10] ?_
   repeat apply aX
   refine bO ?_
   apply aB
   iterate 2 refine v0 ?_
   refine rb 40 true (h := by (first | with_reducible rfl | exact decide_eq_true (by omega) | rfl | decide)) ?_
   refine v0 ?_
   iterate 3 refine w0 ?_
   refine rb 44 false (h := by (first | exact decide_eq_false ht | simp [ht])) ?_
   refine v0 ?_
   refine rb 45 false (h := by (first | with_reducible rfl | exact decide_eq_false (by omega) | rfl | decide)) ?_
   refine pp0 (spec := dE _) (hent := bX) ?_
   repeat (first | refine aO ?_ | refine aN ?_)
   refine bP ?_
   try refine om (h3 := by simp [bM, dD, G.idl, G.idls, cL, aE, aI]) ?_
   refine eY [150, 140] [(0, 150), (1, 140)] (spec := aEo 8 (by omega) (.list (z.er.map pSp)) (.int .i64 z.ey.1) (.int .i64 z.ey.2) (.int .i64 z.im) (.int .i64 z.su.1) (.int .i64 z.su.2) (.list (z.se.map fS))) (hent := aA0) ?_
   refine cV ?_
   refine fk2 [0] ?_
   rw [aL1 hrr (.inr ht)]
   rfl
  ·apply aB
   iterate 2 refine v0 ?_
   refine oc0 [(0, 0)] [] [0, 0] none (spec := aC0 z hv (by omega) (by omega) (gZ 2)) (hent := aGe) ?_
   iterate 5 refine v0 ?_
   apply aC
   refine xcl [0, 3, 4, 5, 9, 10] ?_
   repeat apply aX
   refine bO ?_
   apply aB
   iterate 2 refine v0 ?_
   refine rb 40 false (h := by (first | with_reducible rfl | exact decide_eq_false (by omega) | rfl | decide)) ?_
   refine v0 ?_
   iterate 3 refine x0 ?_
   refine v0 ?_
   refine rb 45 false (h := by (first | with_reducible rfl | exact decide_eq_false (by omega) | rfl | decide)) ?_
   refine pp0 (spec := dE _) (hent := bX) ?_
   repeat (first | refine aO ?_ | refine aN ?_)
   refine bP ?_
   try refine om (h3 := by simp [bM, dD, G.idl, G.idls, cL, aE, aI]) ?_
   refine eY [150, 140] [(0, 150), (1, 140)] (spec := aEo 8 (by omega) (.list (z.er.map pSp)) (.int .i64 z.ey.1) (.int .i64 z.ey.2) (.int .i64 z.im) (.int .i64 z.su.1) (.int .i64 z.su.2) (.list (z.se.map fS))) (hent := aA0) ?_
   refine cV ?_
   refine fk2 [0] ?_
   rw [aL1 hrr (.inl hv)]
   rfl
theorem aFQ (s : Str) (h : s.length ≤ 4096) (hs : Lib.hasSuffix s [10] = false) : Gh.bE E 54 [.p (.str s), .agg [.p (.fn (.func 95) [] []), .map 0, .p (.fn (.func 102) [] [])]] (aG [(0, .map (gZ 2))]) A (fun y => y = .ok (.p (rdM s)) (aG [(0, .map (gZ 2))]) A) := by
 refine kW Tryz.func54 (rfl : Tryz.f54.body = some _) (Nat.le_of_ble_eq_true rfl) (fun id h => ?_) (fun j id h => ?_) ?_
 ·exact nD h
 ·exact nE h
 intro C hN hL
 replace hN : C.N = 48 := hN
 simp only [Gh.num, List.map_cons, List.map_nil, Nat.reduceAdd]
 repeat apply aX
 refine bO ?_
 apply aB
 refine n1 130 false (hc := zY.h {}) ?_
 refine n1 140 false (hc := zY.h {}) ?_
 refine n1 150 false (hc := zY.h {}) ?_
 apply aC
 refine xcl [0, 3, 4, 5] ?_
 repeat apply aX
 refine bO ?_
 apply aB
 refine v0 ?_
 refine df0 ?_
 apply aC
 refine xcl [0, 3, 4, 5] ?_
 repeat apply aX
 refine bO ?_
 refine ad 140 0 3000 24 2 false ?_
 refine ad 140 6 3010 81 3 false ?_
 apply aB
 iterate 3 refine v0 ?_
 refine rb 14 true (h := by (first | with_reducible rfl | exact decide_eq_true (by omega) | rfl | decide)) ?_
 refine pc0 (spec := bG _) (hent := bX) ?_
 apply aC
 refine xcl [0, 3, 4, 5] ?_
 repeat apply aX
 refine bO ?_
 apply aB
 refine v0 ?_
 refine oc0 [] [] [0] none (spec := iY s) (hent := yA) ?_
 apply aC
 refine xcl [0, 3, 4, 5, 17] ?_
 repeat apply aX
 refine iN ?_
 repeat apply aX
 refine rfY 10000 99001 [18] (fun k (z : Msr) A1 => z = Msr.z ∧ A1 = A) (fun z => [(130, .cells [.p (.fn (.func 95) [] []), .map 0, .p (.fn (.func 102) [] [])] 0), (140, .cells [.own 3000 z.er.length, .p (.int .i64 z.ey.1), .p (.int .i64 z.ey.2), .p (.int .i64 z.im), .p (.int .i64 z.su.1), .p (.int .i64 z.su.2), .own 3010 z.se.length] 0), (150, .cells [.p (.int .i64 0)] 0), (0, .map (gZ 2)), (3000, .arr 24 2 (z.er.map pSp) false), (3010, .arr 81 3 (z.se.map fS) false)]) (fun _ (_ : Msr) _ => False) (fun _ _ => []) (fun _ (_ : Msr) _ => False) (fun _ z => [(130, .cells [.p (.fn (.func 95) [] []), .map 0, .p (.fn (.func 102) [] [])] 0), (140, .cells [.own 3000 z.er.length, .p (.int .i64 z.ey.1), .p (.int .i64 z.ey.2), .p (.int .i64 z.im), .p (.int .i64 z.su.1), .p (.int .i64 z.su.2), .own 3010 z.se.length] 0), (150, .cells [.p (.int .i64 0)] 0), (0, .map (gZ 2)), (3000, .arr 24 2 (z.er.map pSp) false), (3010, .arr 81 3 (z.se.map fS) false)]) [] [.k] (it := yC s (by omega) hs) (hent := yB) (xs := []) (tail := some (.iface 218 (.agg [.int .i64 8]))) (pan := true) (hlen := fun x hx => by cases hx) (hshp := fun x hx => by cases hx) (h0 := ?_) (round := fun k z A1 x hI hx lp bs C1 hN1 hL1 => ?_) (hK := fun e z A1 hK => ?_) (hP := fun p z A1 hP => ?_) (hT := fun p z A1 ht hT => ?_) (hI := fun z A1 ht hI => ?_)
 ·exact ⟨Msr.z, ⟨rfl, rfl⟩, rfl⟩
 ·cases hx
 ·exact hK.elim
 ·exact hP.elim
 ·cases ht
  obtain ⟨rfl, rfl⟩ := hT
  repeat (first | refine aO ?_ | refine aN ?_)
  refine bP ?_
  try refine om (h3 := by simp [bM, dD, G.idl, G.idls, cL, aE, aI]) ?_
  refine eY [150, 140, 3000, 3010] [(0, 150), (1, 140), (2, 3000), (3, 3010)] (spec := aEr 8 (by omega) (.int .i64 Msr.z.ey.1) (.int .i64 Msr.z.ey.2) (.int .i64 Msr.z.im) (.int .i64 Msr.z.su.1) (.int .i64 Msr.z.su.2) Msr.z.er.length (Msr.z.er.map pSp) Msr.z.se.length (Msr.z.se.map fS)) (hent := aA0) ?_
  refine cV ?_
  refine fk2 [0] ?_
  rw [aL0 (aDe hs)]
  rfl
 ·cases ht
theorem aBq (s : Str) (x : P) (h : s.length ≤ 4096) (hx : rdM s = x) : Gh.bE E 54 [.p (.str s), .agg [.p (.fn (.func 95) [] []), .map 0, .p (.fn (.func 102) [] [])]] (aG [(0, .map (gZ 2))]) A (fun y => y = .ok (.p x) (aG [(0, .map (gZ 2))]) A) := by
 subst hx
 cases hs : Lib.hasSuffix s [10] with
 | true => exact aFP s h hs
 | false => exact aFQ s h hs
theorem aKa {s : Str} {p : Msr} (h : sQ s = some p) : rdM s = .tuple [jT p, .int .i64 0] := by unfold rdM; rw [h]
theorem aKb {s : Str} (h : sQ s = none) : rdM s = .tuple [jT Msr.z, .int .i64 8] := by unfold rdM; rw [h]
theorem aL3 : aJ Tryz.prog 16 := aJ.mk Tryz.func16 (by kernel_rfl) rfl
theorem aH0 (s : Str) (p : Msr) (h : s.length ≤ 4096) (hr : sQ s = some p) : bZ Tryz.prog 16 [.str s] (.ok (.tuple [jT p, .int .i64 0])) := by
 refine bS Tryz.func16 (rfl : Tryz.f16.body = some _) rfl ?_
 intro E A C hN hL
 replace hN : C.N = 9 := hN
 simp only [Gh.num, List.map_cons, List.map_nil, Nat.reduceAdd]
 unfold jT
 repeat apply aA
 apply aB
 refine n1 120 false (hc := zY.h {}) ?_
 refine v0 ?_
 apply aC
 refine cl [0, 2] ?_
 repeat apply aA
 apply aB
 refine v0 ?_
 refine oc0 [(140, 2000)] [] [] none (spec := vP) (hent := aJ4) ?_
 refine oc0 [(0, 2000)] [] [0, 0] none (spec := aBq s _ h (aKa hr)) (hent := aL2) ?_
 iterate 2 refine v0 ?_
 refine s1 (hc := zY.h {}) ?_
 refine v0 ?_
 apply aC
 repeat apply aA
 refine aL ?_
 repeat (first | refine aH ?_ | refine aF ?_ | refine aD ?_)
 refine aM ?_
 refine fp2 ?_
 rfl
theorem aH1 (s : Str) (h : s.length ≤ 4096) (hr : sQ s = none) : bZ Tryz.prog 16 [.str s] (.ok (.tuple [jT Msr.z, .int .i64 8])) := by
 refine bS Tryz.func16 (rfl : Tryz.f16.body = some _) rfl ?_
 intro E A C hN hL
 replace hN : C.N = 9 := hN
 simp only [Gh.num, List.map_cons, List.map_nil, Nat.reduceAdd]
 unfold jT
 repeat apply aA
 apply aB
 refine n1 120 false (hc := zY.h {}) ?_
 refine v0 ?_
 apply aC
 refine cl [0, 2] ?_
 repeat apply aA
 apply aB
 refine v0 ?_
 refine oc0 [(140, 2000)] [] [] none (spec := vP) (hent := aJ4) ?_
 refine oc0 [(0, 2000)] [] [0, 0] none (spec := aBq s _ h (aKb hr)) (hent := aL2) ?_
 iterate 2 refine v0 ?_
 refine s1 (hc := zY.h {}) ?_
 refine v0 ?_
 apply aC
 repeat apply aA
 refine aL ?_
 repeat (first | refine aH ?_ | refine aF ?_ | refine aD ?_)
 refine aM ?_
 refine fp2 ?_
 rfl
end
section
open Go.Gh
theorem aOG : Tryz.prog.underlying 81 = some (.struct #[⟨"Image",3,0,false,"","",0⟩, ⟨"Reading",3,1,false,"","",8⟩, ⟨"Reversed",4,2,false,"","",16⟩]) := by kernel_rfl
theorem aOH : Tryz.prog.underlying 84 = some (.struct #[⟨"X",24,0,false,"","",0⟩, ⟨"Y",24,2,false,"","",16⟩, ⟨"Known",4,4,false,"","",32⟩, ⟨"East",24,5,false,"","",40⟩, ⟨"North",24,7,false,"","",56⟩]) := by kernel_rfl
theorem aOI : Tryz.prog.underlying 86 = some (.struct #[⟨"Plate",3,0,false,"","",0⟩, ⟨"From",3,1,false,"","",8⟩, ⟨"To",3,2,false,"","",16⟩]) := by kernel_rfl
theorem aOJ : Tryz.prog.underlying 79 = some (.struct #[⟨"East",24,0,false,"","",0⟩, ⟨"North",24,2,false,"","",16⟩]) := by kernel_rfl
theorem aNL : Tryz.prog.underlying 126 = some (.array 2 3) := by kernel_rfl
theorem aPe : Tryz.prog.underlying 4 = some .bool := by kernel_rfl
theorem uB (d : Nat) (a c : Bool) : geq Tryz.prog (d + 1) 4 (.bool a) (.bool c) = some (decide (a = c)) := by
 unfold geq
 rw [aPe]
 cases a <;> cases c <;> rfl
instance decSpt : DecidableEq Spt := fun a b => if h : a.e = b.e ∧ a.n = b.n then isTrue (by cases a; cases b; simp_all) else isFalse fun e => h (by subst e; exact ⟨rfl, rfl⟩)
instance decStg : DecidableEq Stg := fun a b => if h : a.im = b.im ∧ a.rd = b.rd ∧ a.rv = b.rv then isTrue (by cases a; cases b; simp_all) else isFalse fun e => h (by subst e; exact ⟨rfl, rfl, rfl⟩)
instance decStar : DecidableEq mV := fun a b => if h : a.x = b.x ∧ a.y = b.y ∧ a.kn = b.kn ∧ a.e = b.e ∧ a.n = b.n then isTrue (by cases a; cases b; simp_all) else isFalse fun e => h (by subst e; exact ⟨rfl, rfl, rfl, rfl, rfl⟩)
theorem aNM (d : Nat) (a0 c0 : Int) (a1 c1 : Int) (a2 c2 : Bool) : geq Tryz.prog (d + 3) 81 (.agg [.int .i64 a0, .int .i64 a1, .bool a2]) (.agg [.int .i64 c0, .int .i64 c1, .bool c2]) = some (decide ((⟨a0, a1, a2⟩ : Stg) = (⟨c0, c1, c2⟩ : Stg))) := by
 unfold geq
 rw [aOG]
 have hs : Tryz.prog.stoodInHeld 81 = false := by kernel_rfl
 have p0 : ∀ (u0 : Int) (u1 : Int) (u2 : Bool), dC Tryz.prog 3 [.int .i64 u0, .int .i64 u1, .bool u2] 0 = some (.int .i64 u0) := fun u0 u1 u2 => by unfold dC; rw [oS]; rfl
 have p1 : ∀ (u0 : Int) (u1 : Int) (u2 : Bool), dC Tryz.prog 3 [.int .i64 u0, .int .i64 u1, .bool u2] 1 = some (.int .i64 u1) := fun u0 u1 u2 => by unfold dC; rw [oS]; rfl
 have p2 : ∀ (u0 : Int) (u1 : Int) (u2 : Bool), dC Tryz.prog 4 [.int .i64 u0, .int .i64 u1, .bool u2] 2 = some (.bool u2) := fun u0 u1 u2 => by unfold dC; rw [wM]; rfl
 simp only [hs, Bool.false_eq_true, if_false, List.map_cons, List.map_nil, p0, p1, p2, qE, uB, qF, nS]
 simp [nS]
theorem aDg (d : Nat) (a0 c0 a1 c1 : Int) : geq Tryz.prog (d + 3) 24 (.agg [.int .i64 a0, .int .i64 a1]) (.agg [.int .i64 c0, .int .i64 c1]) = some (decide (((a0, a1) : Int × Int) = ((c0, c1) : Int × Int))) := by
 rw [qF]
 simp
theorem aNN (d : Nat) (a0 c0 : Int) (a1 c1 : Int) (a2 c2 : Int) : geq Tryz.prog (d + 3) 86 (.agg [.int .i64 a0, .int .i64 a1, .int .i64 a2]) (.agg [.int .i64 c0, .int .i64 c1, .int .i64 c2]) = some (decide (((a0, a1, a2) : Int × Int × Int) = ((c0, c1, c2) : Int × Int × Int))) := by
 unfold geq
 rw [aOI]
 have hs : Tryz.prog.stoodInHeld 86 = false := by kernel_rfl
 have p0 : ∀ (u0 : Int) (u1 : Int) (u2 : Int), dC Tryz.prog 3 [.int .i64 u0, .int .i64 u1, .int .i64 u2] 0 = some (.int .i64 u0) := fun u0 u1 u2 => by unfold dC; rw [oS]; rfl
 have p1 : ∀ (u0 : Int) (u1 : Int) (u2 : Int), dC Tryz.prog 3 [.int .i64 u0, .int .i64 u1, .int .i64 u2] 1 = some (.int .i64 u1) := fun u0 u1 u2 => by unfold dC; rw [oS]; rfl
 have p2 : ∀ (u0 : Int) (u1 : Int) (u2 : Int), dC Tryz.prog 3 [.int .i64 u0, .int .i64 u1, .int .i64 u2] 2 = some (.int .i64 u2) := fun u0 u1 u2 => by unfold dC; rw [oS]; rfl
 simp only [hs, Bool.false_eq_true, if_false, List.map_cons, List.map_nil, p0, p1, p2, qE, uB, qF, nS]
 simp [nS]
theorem aLn (d : Nat) (a0 c0 : Int) (a1 c1 : Int) : geq Tryz.prog (d + 3) 126 (.agg [.int .i64 a0, .int .i64 a1]) (.agg [.int .i64 c0, .int .i64 c1]) = some (decide (((a0, a1) : Int × Int) = ((c0, c1) : Int × Int))) := by
 unfold geq
 rw [aNL]
 have p0 : ∀ (u0 : Int) (u1 : Int), dC Tryz.prog 3 [.int .i64 u0, .int .i64 u1] 0 = some (.int .i64 u0) := fun u0 u1 => by unfold dC; rw [oS]; rfl
 have p1 : ∀ (u0 : Int) (u1 : Int), dC Tryz.prog 3 [.int .i64 u0, .int .i64 u1] 1 = some (.int .i64 u1) := fun u0 u1 => by unfold dC; rw [oS]; rfl
 simp only [oS, show List.range 2 = [0, 1] from rfl, List.map_cons, List.map_nil, Nat.zero_mul, Nat.one_mul, p0, p1, qE, nS]
 simp [nS]
theorem aNO (d : Nat) (a0 c0 : Int) (a1 c1 : Int) (a2 c2 : Int) (a3 c3 : Int) : geq Tryz.prog (d + 3) 79 (.agg [.int .i64 a0, .int .i64 a1, .int .i64 a2, .int .i64 a3]) (.agg [.int .i64 c0, .int .i64 c1, .int .i64 c2, .int .i64 c3]) = some (decide ((⟨(a0, a1), (a2, a3)⟩ : Spt) = (⟨(c0, c1), (c2, c3)⟩ : Spt))) := by
 unfold geq
 rw [aOJ]
 have hs : Tryz.prog.stoodInHeld 79 = false := by kernel_rfl
 have p0 : ∀ (u0 : Int) (u1 : Int) (u2 : Int) (u3 : Int), dC Tryz.prog 24 [.int .i64 u0, .int .i64 u1, .int .i64 u2, .int .i64 u3] 0 = some (.agg [.int .i64 u0, .int .i64 u1]) := fun u0 u1 u2 u3 => by unfold dC; rw [jX]; rfl
 have p1 : ∀ (u0 : Int) (u1 : Int) (u2 : Int) (u3 : Int), dC Tryz.prog 24 [.int .i64 u0, .int .i64 u1, .int .i64 u2, .int .i64 u3] 2 = some (.agg [.int .i64 u2, .int .i64 u3]) := fun u0 u1 u2 u3 => by unfold dC; rw [jX]; rfl
 simp only [hs, Bool.false_eq_true, if_false, List.map_cons, List.map_nil, p0, p1, qE, uB, qF, nS]
 simp [nS]
theorem aNP (d : Nat) (a0 c0 : Int) (a1 c1 : Int) (a2 c2 : Int) (a3 c3 : Int) (a4 c4 : Bool) (a5 c5 : Int) (a6 c6 : Int) (a7 c7 : Int) (a8 c8 : Int) : geq Tryz.prog (d + 3) 84 (.agg [.int .i64 a0, .int .i64 a1, .int .i64 a2, .int .i64 a3, .bool a4, .int .i64 a5, .int .i64 a6, .int .i64 a7, .int .i64 a8]) (.agg [.int .i64 c0, .int .i64 c1, .int .i64 c2, .int .i64 c3, .bool c4, .int .i64 c5, .int .i64 c6, .int .i64 c7, .int .i64 c8]) = some (decide ((⟨(a0, a1), (a2, a3), a4, (a5, a6), (a7, a8)⟩ : mV) = (⟨(c0, c1), (c2, c3), c4, (c5, c6), (c7, c8)⟩ : mV))) := by
 unfold geq
 rw [aOH]
 have hs : Tryz.prog.stoodInHeld 84 = false := by kernel_rfl
 have p0 : ∀ (u0 : Int) (u1 : Int) (u2 : Int) (u3 : Int) (u4 : Bool) (u5 : Int) (u6 : Int) (u7 : Int) (u8 : Int), dC Tryz.prog 24 [.int .i64 u0, .int .i64 u1, .int .i64 u2, .int .i64 u3, .bool u4, .int .i64 u5, .int .i64 u6, .int .i64 u7, .int .i64 u8] 0 = some (.agg [.int .i64 u0, .int .i64 u1]) := fun u0 u1 u2 u3 u4 u5 u6 u7 u8 => by unfold dC; rw [jX]; rfl
 have p1 : ∀ (u0 : Int) (u1 : Int) (u2 : Int) (u3 : Int) (u4 : Bool) (u5 : Int) (u6 : Int) (u7 : Int) (u8 : Int), dC Tryz.prog 24 [.int .i64 u0, .int .i64 u1, .int .i64 u2, .int .i64 u3, .bool u4, .int .i64 u5, .int .i64 u6, .int .i64 u7, .int .i64 u8] 2 = some (.agg [.int .i64 u2, .int .i64 u3]) := fun u0 u1 u2 u3 u4 u5 u6 u7 u8 => by unfold dC; rw [jX]; rfl
 have p2 : ∀ (u0 : Int) (u1 : Int) (u2 : Int) (u3 : Int) (u4 : Bool) (u5 : Int) (u6 : Int) (u7 : Int) (u8 : Int), dC Tryz.prog 4 [.int .i64 u0, .int .i64 u1, .int .i64 u2, .int .i64 u3, .bool u4, .int .i64 u5, .int .i64 u6, .int .i64 u7, .int .i64 u8] 4 = some (.bool u4) := fun u0 u1 u2 u3 u4 u5 u6 u7 u8 => by unfold dC; rw [wM]; rfl
 have p3 : ∀ (u0 : Int) (u1 : Int) (u2 : Int) (u3 : Int) (u4 : Bool) (u5 : Int) (u6 : Int) (u7 : Int) (u8 : Int), dC Tryz.prog 24 [.int .i64 u0, .int .i64 u1, .int .i64 u2, .int .i64 u3, .bool u4, .int .i64 u5, .int .i64 u6, .int .i64 u7, .int .i64 u8] 5 = some (.agg [.int .i64 u5, .int .i64 u6]) := fun u0 u1 u2 u3 u4 u5 u6 u7 u8 => by unfold dC; rw [jX]; rfl
 have p4 : ∀ (u0 : Int) (u1 : Int) (u2 : Int) (u3 : Int) (u4 : Bool) (u5 : Int) (u6 : Int) (u7 : Int) (u8 : Int), dC Tryz.prog 24 [.int .i64 u0, .int .i64 u1, .int .i64 u2, .int .i64 u3, .bool u4, .int .i64 u5, .int .i64 u6, .int .i64 u7, .int .i64 u8] 7 = some (.agg [.int .i64 u7, .int .i64 u8]) := fun u0 u1 u2 u3 u4 u5 u6 u7 u8 => by unfold dC; rw [jX]; rfl
 simp only [hs, Bool.false_eq_true, if_false, List.map_cons, List.map_nil, p0, p1, p2, p3, p4, qE, uB, qF, nS]
 simp [nS]
instance decMsr : DecidableEq Msr := fun a b => if h : a.im = b.im ∧ a.su = b.su ∧ a.ey = b.ey ∧ a.er = b.er ∧ a.se = b.se then isTrue (by cases a; cases b; simp_all) else isFalse fun e => h (by subst e; exact ⟨rfl, rfl, rfl, rfl, rfl⟩)
instance decPlt : DecidableEq Plt := fun a b => if h : a.sc = b.sc ∧ a.st = b.st then isTrue (by cases a; cases b; simp_all) else isFalse fun e => h (by subst e; exact ⟨rfl, rfl⟩)
instance decChn : DecidableEq Chn := fun a b => if h : a.pl = b.pl ∧ a.ps = b.ps ∧ a.kn = b.kn ∧ a.rs = b.rs ∧ a.ms = b.ms then isTrue (by cases a; cases b; simp_all) else isFalse fun e => h (by subst e; exact ⟨rfl, rfl, rfl, rfl, rfl⟩)
instance decNgt : DecidableEq Ngt := fun a b => if h : a.day = b.day ∧ a.sp = b.sp then isTrue (by cases a; cases b; simp_all) else isFalse fun e => h (by subst e; exact ⟨rfl, rfl⟩)
instance decSch : DecidableEq Sch := fun a b => if h : a.v = b.v ∧ a.ni = b.ni ∧ a.st = b.st then isTrue (by cases a; cases b; simp_all) else isFalse fun e => h (by subst e; exact ⟨rfl, rfl, rfl⟩)
theorem dG {α : Type} {a b : List α} {k : Nat} (h : a.take k = b.take k) (h1 : a.length ≤ k) (h2 : b.length ≤ k) : a = b := by
 rw [List.take_of_length_le h1, List.take_of_length_le h2] at h; exact h
theorem kL {α : Type} {a b : List α} {k : Nat} {x y : α} (ha : a[k]? = some x) (hb : b[k]? = some y) (h : a.take k = b.take k) (e : x = y) : a.take (k + 1) = b.take (k + 1) := by rw [List.take_add_one, List.take_add_one, ha, hb, h, e]
theorem dX {α : Type} {a b : List α} {k : Nat} {x y : α} (ha : a[k]? = some x) (hb : b[k]? = some y) (e : ¬ x = y) : ¬ a = b := fun h => by subst h; rw [ha] at hb; cases hb; exact e rfl
end
section
open Go.Gh
structure rH (c : Prop) : Prop where
 h : c := by (first | exact True.intro | omega | (simp only [inI]; omega) | (simp [P.size]; done) | ((repeat' apply And.intro) <;> (first | trivial | omega | (simp only [List.length_map]; omega) | (intro z hz; obtain ⟨y, _, rfl⟩ := List.mem_map.1 hz; rfl)); done) | kernel_rfl | omega | (simp only [inI]; omega) | (simp [P.size, bR, bF, bN, bB, cR, good, G.one, P.one, P.cells] <;> first | omega | assumption | simp_all))
theorem aOK : aJ Tryz.prog 61 := aJ.mk Tryz.func61 (by kernel_rfl) rfl
theorem aKc (a b : List (Int × Int)) (ha : a.length ≤ 1048576) (hb : b.length ≤ 1048576) : bZ Tryz.prog 61 [.list (a.map pSp), .list (b.map pSp)] (.ok (.bool (decide (a = b)))) := by
 refine bS Tryz.func61 (rfl : Tryz.f61.body = some _) rfl ?_
 intro E A C hN hL
 replace hN : C.N = 26 := hN
 simp only [Gh.num, List.map_cons, List.map_nil, Nat.reduceAdd]
 have hpsp : ∀ s : Int × Int, pSp s = .agg [.int .i64 s.1, .int .i64 s.2] := fun _ => rfl
 have hg24 := aDg 3
 repeat apply aA
 apply aB
 refine v0 ?_
 apply aC
 refine cl [0, 1] ?_
 repeat apply aA
 apply aB
 iterate 5 refine v0 ?_
 apply aC
 repeat apply aA
 refine cB (k1 := fun hb1 => ?_) (k0 := fun hb1 => ?_)
 ·replace hb1 := hB.h {} hb1
  try rw [eqI] at hb1
  repeat apply aA
  apply aB
  refine v0 ?_
  apply aC
  repeat apply aA
  refine aL ?_
  repeat (first | refine aH ?_ | refine aF ?_ | refine aD ?_)
  refine aM ?_
  refine fp ?_
  simp only [dS.at, cK.ok.injEq, G.p.injEq, P.bool.injEq, true_and, and_true]
  first
  | (rw [decide_eq_false (fun e : a = b => by subst e; omega)]; done)
  | (rw [decide_eq_false (dX hx hy (by assumption))]; done)
  | (rw [decide_eq_true (dG htk (by omega) (by omega))]; done)
 ·replace hb1 := hB.h {} hb1
  try rw [eqI] at hb1
  repeat apply aA
  refine aR ?_
  refine cl [0, 1] ?_
  repeat apply aA
  apply aB
  refine v0 ?_
  apply aC
  refine cl [0, 1, 5] ?_
  repeat apply aA
  refine aP ?_
  repeat apply aA
  refine cI (fun mz σ => ∃ k : Nat, (k ≤ a.length) ∧ (a.length ≤ b.length ∧ b.length ≤ a.length) ∧ (a.take k = b.take k) ∧ mz = a.length - k ∧ σ = (sg [(0, .p (.list (a.map pSp))), (1, .p (.list (b.map pSp))), (5, .p (.int .i64 (k : Nat)))] [] A [] : Sg E)) ?_ (fun mz σ hI => ?_)
  ·refine gA [0, 1, 5] ?_
   exact ⟨_, 0, by omega, ⟨by omega, by omega⟩, rfl, rfl, rfl⟩
  obtain ⟨k, hk, ⟨hab1, hab2⟩, htk, hnn, rfl⟩ := hI
  repeat apply aA
  apply aB
  iterate 4 refine v0 ?_
  apply aC
  repeat apply aA
  refine cB (k1 := fun hb2 => ?_) (k0 := fun hb2 => ?_)
  ·replace hb2 := hB.h {} hb2
   try rw [eqI] at hb2
   repeat apply aA
   refine aR ?_
   refine cl [0, 1, 5] ?_
   repeat apply aA
   refine aP ?_
   repeat apply aA
   obtain ⟨x, hx⟩ := fQ (l := a) (k := k) (by omega)
   obtain ⟨y, hy⟩ := fQ (l := b) (k := k) (by omega)
   refine rd ?_
   refine d0 0 ?_
   refine d0 1 ?_
   refine d1 2 (hc := rH.h {}) ?_
   refine d0 3 ?_
   refine d0 4 ?_
   refine d0 5 ?_
   refine d1 6 (hc := rH.h {}) ?_
   refine d0 7 ?_
   refine d1 8 (hc := rH.h {}) ?_
   refine dz 9 [0, 0, 3, 7, 0, 0, 48, 112, 255] ?_
   refine de 9 ?_
   repeat apply aA
   refine cB (k1 := fun hb3 => ?_) (k0 := fun hb3 => ?_)
   ·replace hb3 := hB.h {} hb3
    try rw [eqI] at hb3
    repeat apply aA
    apply aB
    refine v0 ?_
    apply aC
    repeat apply aA
    refine aL ?_
    repeat (first | refine aH ?_ | refine aF ?_ | refine aD ?_)
    refine aM ?_
    refine fp ?_
    simp only [dS.at, cK.ok.injEq, G.p.injEq, P.bool.injEq, true_and, and_true]
    first
    | (rw [decide_eq_false (fun e : a = b => by subst e; omega)]; done)
    | (rw [decide_eq_false (dX hx hy (by assumption))]; done)
    | (rw [decide_eq_true (dG htk (by omega) (by omega))]; done)
   ·replace hb3 := hB.h {} hb3
    try rw [eqI] at hb3
    repeat apply aA
    refine aR ?_
    refine cl [0, 1, 5] ?_
    repeat apply aA
    apply aB
    refine v0 ?_
    refine v1 (hc := rH.h {}) ?_
    refine v0 ?_
    apply aC
    refine eC [0, 1, 5] (h := ?_) (hV := ?_) (n' := a.length - (k + 1))
    ·omega
    exact ⟨k + 1, by omega, ⟨hab1, hab2⟩, kL hx hy htk (by assumption), rfl, rfl⟩
  ·replace hb2 := hB.h {} hb2
   try rw [eqI] at hb2
   repeat apply aA
   refine bV ?_
   repeat (first | refine bH ?_ | refine aY ?_ | refine bC ?_ | refine bI rfl ?_)
   refine cl [] ?_
   repeat apply aA
   apply aB
   refine v0 ?_
   apply aC
   repeat apply aA
   refine aL ?_
   repeat (first | refine aH ?_ | refine aF ?_ | refine aD ?_)
   refine aM ?_
   refine fp ?_
   simp only [dS.at, cK.ok.injEq, G.p.injEq, P.bool.injEq, true_and, and_true]
   first
   | (rw [decide_eq_false (fun e : a = b => by subst e; omega)]; done)
   | (rw [decide_eq_false (dX hx hy (by assumption))]; done)
   | (rw [decide_eq_true (dG htk (by omega) (by omega))]; done)
theorem yQ {a b : Msr} (h1 : a.im = b.im) (h2 : (a.su.1, a.su.2) = (b.su.1, b.su.2)) (h3 : (a.ey.1, a.ey.2) = (b.ey.1, b.ey.2)) (h4 : a.se = b.se) : decide (a.er = b.er) = decide (a = b) := by
 replace h2 : a.su = b.su := h2
 replace h3 : a.ey = b.ey := h3
 refine decide_eq_decide.2 ⟨fun e => ?_, fun e => by rw [e]⟩
 cases a; cases b; simp_all
theorem aFR {a b : Plt} (h4 : a.st = b.st) : decide ((a.sc.1, a.sc.2) = (b.sc.1, b.sc.2)) = decide (a = b) := by
 refine decide_eq_decide.2 ⟨fun e => ?_, fun e => by rw [e]⟩
 replace e : a.sc = b.sc := e
 cases a; cases b; simp_all
theorem vQ {a b : Chn} (h1 : a.pl = b.pl) (h2 : a.ps = b.ps) (h3 : a.kn = b.kn) (h4 : a.rs = b.rs) : decide (a.ms = b.ms) = decide (a = b) := by
 refine decide_eq_decide.2 ⟨fun e => ?_, fun e => by rw [e]⟩
 cases a; cases b; simp_all
theorem yR {a b : Sch} (h1 : (a.v.1, a.v.2) = (b.v.1, b.v.2)) (h4 : a.ni = b.ni) : decide (a.st = b.st) = decide (a = b) := by
 replace h1 : a.v = b.v := h1
 refine decide_eq_decide.2 ⟨fun e => ?_, fun e => by rw [e]⟩
 cases a; cases b; simp_all
theorem aOL : aJ Tryz.prog 22 := aJ.mk Tryz.func22 (by kernel_rfl) rfl
theorem aLo (a b : Msr) (h1 : a.er.length ≤ 1048576) (h2 : b.er.length ≤ 1048576) (h3 : a.se.length ≤ 1048576) (h4 : b.se.length ≤ 1048576) : bZ Tryz.prog 22 [jT a, jT b] (.ok (.bool (decide (a = b)))) := by
 refine bS Tryz.func22 (rfl : Tryz.f22.body = some _) rfl ?_
 intro E A C hN hL
 replace hN : C.N = 61 := hN
 simp only [Gh.num, List.map_cons, List.map_nil, Nat.reduceAdd]
 have hpsp : ∀ s : Int × Int, pSp s = .agg [.int .i64 s.1, .int .i64 s.2] := fun _ => rfl
 have hpsg : ∀ s : Stg, fS s = .agg [.int .i64 s.im, .int .i64 s.rd, .bool s.rv] := fun _ => rfl
 have hg24 := aDg 3
 have hg81 := aNM 3
 unfold jT
 repeat apply aA
 apply aB
 refine n1 120 false (hc := rH.h {}) ?_
 refine n1 130 false (hc := rH.h {}) ?_
 refine v0 ?_
 apply aC
 refine cl [2, 3] ?_
 repeat apply aA
 apply aB
 iterate 7 refine v0 ?_
 apply aC
 repeat apply aA
 refine cB (k1 := fun hb1 => ?_) (k0 := fun hb1 => ?_)
 ·replace hb1 := hB.h {} hb1
  try rw [eqI] at hb1
  repeat apply aA
  apply aB
  refine v0 ?_
  apply aC
  repeat apply aA
  refine aL ?_
  repeat (first | refine aH ?_ | refine aF ?_ | refine aD ?_)
  refine aM ?_
  refine fp ?_
  simp only [dS.at, cK.ok.injEq, G.p.injEq, P.bool.injEq, true_and, and_true]
  first
  | (rw [decide_eq_false (fun e : a = b => by subst e; omega)]; done)
  | (rw [decide_eq_false (fun e : a = b => dX hx hy (by assumption) (by rw [e]))]; done)
  | (rw [decide_eq_false (fun e : a = b => by subst e; simp_all)]; done)
  | exact (yQ (by omega) (by assumption) (by assumption) (dG htk (by omega) (by omega)))
 ·replace hb1 := hB.h {} hb1
  try rw [eqI] at hb1
  repeat apply aA
  refine aR ?_
  refine cl [2, 3] ?_
  repeat apply aA
  apply aB
  refine v0 ?_
  apply aC
  refine cl [2, 3, 5] ?_
  repeat apply aA
  refine aP ?_
  repeat apply aA
  refine cI (fun mz σ => ∃ k : Nat, (k ≤ a.se.length) ∧ (a.se.length ≤ b.se.length ∧ b.se.length ≤ a.se.length) ∧ (a.se.take k = b.se.take k) ∧ mz = a.se.length - k ∧ σ = (sg [(2, .ref 120 0), (3, .ref 130 0), (5, .p (.int .i64 (k : Nat)))] [(120, .cells [.p (.list (a.er.map pSp)), .p (.int .i64 a.ey.1), .p (.int .i64 a.ey.2), .p (.int .i64 a.im), .p (.int .i64 a.su.1), .p (.int .i64 a.su.2), .p (.list (a.se.map fS))] 0), (130, .cells [.p (.list (b.er.map pSp)), .p (.int .i64 b.ey.1), .p (.int .i64 b.ey.2), .p (.int .i64 b.im), .p (.int .i64 b.su.1), .p (.int .i64 b.su.2), .p (.list (b.se.map fS))] 0)] A [] : Sg E)) ?_ (fun mz σ hI => ?_)
  ·refine gA [2, 3, 5] ?_
   exact ⟨_, 0, by omega, ⟨by omega, by omega⟩, rfl, rfl, rfl⟩
  obtain ⟨k, hk, ⟨hab1, hab2⟩, htk, hnn, rfl⟩ := hI
  repeat apply aA
  apply aB
  iterate 5 refine v0 ?_
  apply aC
  repeat apply aA
  refine cB (k1 := fun hb2 => ?_) (k0 := fun hb2 => ?_)
  ·replace hb2 := hB.h {} hb2
   try rw [eqI] at hb2
   repeat apply aA
   refine aR ?_
   refine cl [2, 3, 5] ?_
   repeat apply aA
   refine aP ?_
   repeat apply aA
   obtain ⟨x, hx⟩ := fQ (l := a.se) (k := k) (by omega)
   obtain ⟨y, hy⟩ := fQ (l := b.se) (k := k) (by omega)
   refine rd ?_
   refine d0 0 ?_
   refine d0 1 ?_
   refine d0 2 ?_
   refine d1 3 (hc := rH.h {}) ?_
   refine d0 4 ?_
   refine d0 5 ?_
   refine d0 6 ?_
   refine d0 7 ?_
   refine d1 8 (hc := rH.h {}) ?_
   refine d0 9 ?_
   refine d1 10 (hc := rH.h {}) ?_
   refine dz 11 [0, 1, 0, 7, 15, 0, 32, 0, 224, 480, 1023] ?_
   refine de 11 ?_
   repeat apply aA
   refine cB (k1 := fun hb3 => ?_) (k0 := fun hb3 => ?_)
   ·replace hb3 := hB.h {} hb3
    try rw [eqI] at hb3
    repeat apply aA
    apply aB
    refine v0 ?_
    apply aC
    repeat apply aA
    refine aL ?_
    repeat (first | refine aH ?_ | refine aF ?_ | refine aD ?_)
    refine aM ?_
    refine fp ?_
    simp only [dS.at, cK.ok.injEq, G.p.injEq, P.bool.injEq, true_and, and_true]
    first
    | (rw [decide_eq_false (fun e : a = b => by subst e; omega)]; done)
    | (rw [decide_eq_false (fun e : a = b => dX hx hy (by assumption) (by rw [e]))]; done)
    | (rw [decide_eq_false (fun e : a = b => by subst e; simp_all)]; done)
    | exact (yQ (by omega) (by assumption) (by assumption) (dG htk (by omega) (by omega)))
   ·replace hb3 := hB.h {} hb3
    try rw [eqI] at hb3
    repeat apply aA
    refine aR ?_
    refine cl [2, 3, 5] ?_
    repeat apply aA
    apply aB
    refine v0 ?_
    refine v1 (hc := rH.h {}) ?_
    refine v0 ?_
    apply aC
    refine eC [2, 3, 5] (h := ?_) (hV := ?_) (n' := a.se.length - (k + 1))
    ·omega
    exact ⟨k + 1, by omega, ⟨hab1, hab2⟩, kL hx hy htk (by assumption), rfl, rfl⟩
  ·replace hb2 := hB.h {} hb2
   try rw [eqI] at hb2
   repeat apply aA
   refine bV ?_
   repeat (first | refine bH ?_ | refine aY ?_ | refine bC ?_ | refine bI rfl ?_)
   refine cl [2, 3] ?_
   repeat apply aA
   apply aB
   iterate 6 refine v0 ?_
   refine b0 (k1 := fun hb4 => ?_) (k0 := fun hb4 => ?_)
   ·replace hb4 := hB.h {} hb4
    try rw [eqI] at hb4
    iterate 4 refine w0 ?_
    refine w1 (hc := rH.h {}) ?_
    iterate 2 refine v0 ?_
    refine b0 (k1 := fun hb5 => ?_) (k0 := fun hb5 => ?_)
    ·replace hb5 := hB.h {} hb5
     try rw [eqI] at hb5
     iterate 6 refine w0 ?_
     refine w1 (hc := rH.h {}) ?_
     iterate 2 refine v0 ?_
     refine b0 (k1 := fun hb6 => ?_) (k0 := fun hb6 => ?_)
     ·replace hb6 := hB.h {} hb6
      try rw [eqI] at hb6
      iterate 6 refine w0 ?_
      refine pcw (spec := aKc a.er b.er h1 h2) (hent := aOK) ?_
      iterate 2 refine v0 ?_
      apply aC
      repeat apply aA
      refine aL ?_
      repeat (first | refine aH ?_ | refine aF ?_ | refine aD ?_)
      refine aM ?_
      refine fp ?_
      simp only [dS.at, cK.ok.injEq, G.p.injEq, P.bool.injEq, true_and, and_true]
      first
      | (rw [decide_eq_false (fun e : a = b => by subst e; omega)]; done)
      | (rw [decide_eq_false (fun e : a = b => dX hx hy (by assumption) (by rw [e]))]; done)
      | (rw [decide_eq_false (fun e : a = b => by subst e; simp_all)]; done)
      | exact (yQ (by omega) (by assumption) (by assumption) (dG htk (by omega) (by omega)))
     ·replace hb6 := hB.h {} hb6
      try rw [eqI] at hb6
      iterate 7 refine x0 ?_
      iterate 2 refine v0 ?_
      apply aC
      repeat apply aA
      refine aL ?_
      repeat (first | refine aH ?_ | refine aF ?_ | refine aD ?_)
      refine aM ?_
      refine fp ?_
      simp only [dS.at, cK.ok.injEq, G.p.injEq, P.bool.injEq, true_and, and_true]
      first
      | (rw [decide_eq_false (fun e : a = b => by subst e; omega)]; done)
      | (rw [decide_eq_false (fun e : a = b => dX hx hy (by assumption) (by rw [e]))]; done)
      | (rw [decide_eq_false (fun e : a = b => by subst e; simp_all)]; done)
      | exact (yQ (by omega) (by assumption) (by assumption) (dG htk (by omega) (by omega)))
    ·replace hb5 := hB.h {} hb5
     try rw [eqI] at hb5
     iterate 7 refine x0 ?_
     iterate 2 refine v0 ?_
     iterate 7 refine x0 ?_
     iterate 2 refine v0 ?_
     apply aC
     repeat apply aA
     refine aL ?_
     repeat (first | refine aH ?_ | refine aF ?_ | refine aD ?_)
     refine aM ?_
     refine fp ?_
     simp only [dS.at, cK.ok.injEq, G.p.injEq, P.bool.injEq, true_and, and_true]
     first
     | (rw [decide_eq_false (fun e : a = b => by subst e; omega)]; done)
     | (rw [decide_eq_false (fun e : a = b => dX hx hy (by assumption) (by rw [e]))]; done)
     | (rw [decide_eq_false (fun e : a = b => by subst e; simp_all)]; done)
     | exact (yQ (by omega) (by assumption) (by assumption) (dG htk (by omega) (by omega)))
   ·replace hb4 := hB.h {} hb4
    try rw [eqI] at hb4
    iterate 5 refine x0 ?_
    iterate 2 refine v0 ?_
    iterate 7 refine x0 ?_
    iterate 2 refine v0 ?_
    iterate 7 refine x0 ?_
    iterate 2 refine v0 ?_
    apply aC
    repeat apply aA
    refine aL ?_
    repeat (first | refine aH ?_ | refine aF ?_ | refine aD ?_)
    refine aM ?_
    refine fp ?_
    simp only [dS.at, cK.ok.injEq, G.p.injEq, P.bool.injEq, true_and, and_true]
    first
    | (rw [decide_eq_false (fun e : a = b => by subst e; omega)]; done)
    | (rw [decide_eq_false (fun e : a = b => dX hx hy (by assumption) (by rw [e]))]; done)
    | (rw [decide_eq_false (fun e : a = b => by subst e; simp_all)]; done)
    | exact (yQ (by omega) (by assumption) (by assumption) (dG htk (by omega) (by omega)))
theorem aOM : aJ Tryz.prog 23 := aJ.mk Tryz.func23 (by kernel_rfl) rfl
theorem aLp (a b : Plt) (h3 : a.st.length ≤ 1048576) (h4 : b.st.length ≤ 1048576) : bZ Tryz.prog 23 [nF a, nF b] (.ok (.bool (decide (a = b)))) := by
 refine bS Tryz.func23 (rfl : Tryz.f23.body = some _) rfl ?_
 intro E A C hN hL
 replace hN : C.N = 36 := hN
 simp only [Gh.num, List.map_cons, List.map_nil, Nat.reduceAdd]
 have hps : ∀ s : mV, eJ s = .agg [.int .i64 s.x.1, .int .i64 s.x.2, .int .i64 s.y.1, .int .i64 s.y.2, .bool s.kn, .int .i64 s.e.1, .int .i64 s.e.2, .int .i64 s.n.1, .int .i64 s.n.2] := fun _ => rfl
 have hg24 := aDg 3
 have hg84 := aNP 3
 unfold nF
 repeat apply aA
 apply aB
 refine n1 120 false (hc := rH.h {}) ?_
 refine n1 130 false (hc := rH.h {}) ?_
 refine v0 ?_
 apply aC
 refine cl [2, 3] ?_
 repeat apply aA
 apply aB
 iterate 7 refine v0 ?_
 apply aC
 repeat apply aA
 refine cB (k1 := fun hb1 => ?_) (k0 := fun hb1 => ?_)
 ·replace hb1 := hB.h {} hb1
  try rw [eqI] at hb1
  repeat apply aA
  apply aB
  refine v0 ?_
  apply aC
  repeat apply aA
  refine aL ?_
  repeat (first | refine aH ?_ | refine aF ?_ | refine aD ?_)
  refine aM ?_
  refine fp ?_
  simp only [dS.at, cK.ok.injEq, G.p.injEq, P.bool.injEq, true_and, and_true]
  first
  | (rw [decide_eq_false (fun e : a = b => by subst e; omega)]; done)
  | (rw [decide_eq_false (fun e : a = b => dX hx hy (by assumption) (by rw [e]))]; done)
  | exact (aFR (dG htk (by omega) (by omega)))
 ·replace hb1 := hB.h {} hb1
  try rw [eqI] at hb1
  repeat apply aA
  refine aR ?_
  refine cl [2, 3] ?_
  repeat apply aA
  apply aB
  refine v0 ?_
  apply aC
  refine cl [2, 3, 5] ?_
  repeat apply aA
  refine aP ?_
  repeat apply aA
  refine cI (fun mz σ => ∃ k : Nat, (k ≤ a.st.length) ∧ (a.st.length ≤ b.st.length ∧ b.st.length ≤ a.st.length) ∧ (a.st.take k = b.st.take k) ∧ mz = a.st.length - k ∧ σ = (sg [(2, .ref 120 0), (3, .ref 130 0), (5, .p (.int .i64 (k : Nat)))] [(120, .cells [.p (.int .i64 a.sc.1), .p (.int .i64 a.sc.2), .p (.list (a.st.map eJ))] 0), (130, .cells [.p (.int .i64 b.sc.1), .p (.int .i64 b.sc.2), .p (.list (b.st.map eJ))] 0)] A [] : Sg E)) ?_ (fun mz σ hI => ?_)
  ·refine gA [2, 3, 5] ?_
   exact ⟨_, 0, by omega, ⟨by omega, by omega⟩, rfl, rfl, rfl⟩
  obtain ⟨k, hk, ⟨hab1, hab2⟩, htk, hnn, rfl⟩ := hI
  repeat apply aA
  apply aB
  iterate 5 refine v0 ?_
  apply aC
  repeat apply aA
  refine cB (k1 := fun hb2 => ?_) (k0 := fun hb2 => ?_)
  ·replace hb2 := hB.h {} hb2
   try rw [eqI] at hb2
   repeat apply aA
   refine aR ?_
   refine cl [2, 3, 5] ?_
   repeat apply aA
   refine aP ?_
   repeat apply aA
   obtain ⟨x, hx⟩ := fQ (l := a.st) (k := k) (by omega)
   obtain ⟨y, hy⟩ := fQ (l := b.st) (k := k) (by omega)
   refine rd ?_
   refine d0 0 ?_
   refine d0 1 ?_
   refine d0 2 ?_
   refine d1 3 (hc := rH.h {}) ?_
   refine d0 4 ?_
   refine d0 5 ?_
   refine d0 6 ?_
   refine d0 7 ?_
   refine d1 8 (hc := rH.h {}) ?_
   refine d0 9 ?_
   refine d1 10 (hc := rH.h {}) ?_
   refine dz 11 [0, 1, 0, 7, 15, 0, 32, 0, 224, 480, 1023] ?_
   refine de 11 ?_
   repeat apply aA
   refine cB (k1 := fun hb3 => ?_) (k0 := fun hb3 => ?_)
   ·replace hb3 := hB.h {} hb3
    try rw [eqI] at hb3
    repeat apply aA
    apply aB
    refine v0 ?_
    apply aC
    repeat apply aA
    refine aL ?_
    repeat (first | refine aH ?_ | refine aF ?_ | refine aD ?_)
    refine aM ?_
    refine fp ?_
    simp only [dS.at, cK.ok.injEq, G.p.injEq, P.bool.injEq, true_and, and_true]
    first
    | (rw [decide_eq_false (fun e : a = b => by subst e; omega)]; done)
    | (rw [decide_eq_false (fun e : a = b => dX hx hy (by assumption) (by rw [e]))]; done)
    | exact (aFR (dG htk (by omega) (by omega)))
   ·replace hb3 := hB.h {} hb3
    try rw [eqI] at hb3
    repeat apply aA
    refine aR ?_
    refine cl [2, 3, 5] ?_
    repeat apply aA
    apply aB
    refine v0 ?_
    refine v1 (hc := rH.h {}) ?_
    refine v0 ?_
    apply aC
    refine eC [2, 3, 5] (h := ?_) (hV := ?_) (n' := a.st.length - (k + 1))
    ·omega
    exact ⟨k + 1, by omega, ⟨hab1, hab2⟩, kL hx hy htk (by assumption), rfl, rfl⟩
  ·replace hb2 := hB.h {} hb2
   try rw [eqI] at hb2
   repeat apply aA
   refine bV ?_
   repeat (first | refine bH ?_ | refine aY ?_ | refine bC ?_ | refine bI rfl ?_)
   refine cl [2, 3] ?_
   repeat apply aA
   apply aB
   iterate 4 refine v0 ?_
   refine v1 (hc := rH.h {}) ?_
   refine v0 ?_
   apply aC
   repeat apply aA
   refine aL ?_
   repeat (first | refine aH ?_ | refine aF ?_ | refine aD ?_)
   refine aM ?_
   refine fp ?_
   simp only [dS.at, cK.ok.injEq, G.p.injEq, P.bool.injEq, true_and, and_true]
   first
   | (rw [decide_eq_false (fun e : a = b => by subst e; omega)]; done)
   | (rw [decide_eq_false (fun e : a = b => dX hx hy (by assumption) (by rw [e]))]; done)
   | exact (aFR (dG htk (by omega) (by omega)))
end
end Go.Proofs.YtecmhhpccmaeiaaGreatDoor
