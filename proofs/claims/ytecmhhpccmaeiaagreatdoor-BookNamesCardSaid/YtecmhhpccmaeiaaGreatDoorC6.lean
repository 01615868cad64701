/- What functions of the program return, each for every input that its theorem names. Made small by a program of ours. -/
import Derived.Test.YtecmhhpccmaeiaaGreatDoorC5
set_option linter.unusedVariables false
set_option linter.unusedSimpArgs false
set_option maxRecDepth 100000
set_option maxHeartbeats 4000000
namespace Go.Proofs.YtecmhhpccmaeiaaGreatDoor
section
open Go.Gh
structure aBE (c : Prop) : Prop where
 h : c := by (first | exact True.intro | omega | (simp only [inI]; omega) | (simp [P.size]; done) | ((repeat' apply And.intro) <;> (first | trivial | omega | (simp only [List.length_map]; omega) | (intro z hz; obtain ⟨y, _, rfl⟩ := List.mem_map.1 hz; rfl)); done) | kernel_rfl | omega | (simp only [inI]; omega) | (simp [P.size, bR, bF, bN, bB, cR, good, G.one, P.one, P.cells] <;> first | omega | assumption | simp_all))
theorem aON : aJ Tryz.prog 32 := aJ.mk Tryz.func32 (by kernel_rfl) rfl
theorem aLq (a b : Chn) (h1 : a.kn.length ≤ 1048576) (h2 : b.kn.length ≤ 1048576) (h3 : a.rs.length ≤ 1048576) (h4 : b.rs.length ≤ 1048576) : bZ Tryz.prog 32 [nG a, nG b] (.ok (.bool (decide (a = b)))) := by
 refine bS Tryz.func32 (rfl : Tryz.f32.body = some _) rfl ?_
 intro E A C hN hL
 replace hN : C.N = 78 := hN
 simp only [Gh.num, List.map_cons, List.map_nil, Nat.reduceAdd]
 have hpsp : ∀ s : Int × Int, pSp s = .agg [.int .i64 s.1, .int .i64 s.2] := fun _ => rfl
 have hprc : ∀ s : Int × Int × Int, pRc s = .agg [.int .i64 s.1, .int .i64 s.2.1, .int .i64 s.2.2] := fun _ => rfl
 have hg126 := aLn 3
 have hg86 := aNN 3
 unfold nG
 repeat apply aA
 apply aB
 refine n1 120 false (hc := aBE.h {}) ?_
 refine n1 130 false (hc := aBE.h {}) ?_
 refine v0 ?_
 apply aC
 refine cl [2, 3] ?_
 repeat apply aA
 apply aB
 iterate 8 refine v0 ?_
 refine b0 (k1 := fun hb1 => ?_) (k0 := fun hb1 => ?_)
 ·replace hb1 := hB.h {} hb1
  try rw [eqI] at hb1
  iterate 7 refine x0 ?_
  refine v0 ?_
  apply aC
  repeat apply aA
  refine cT ?_
  repeat apply aA
  apply aB
  refine v0 ?_
  apply aC
  repeat apply aA
  refine aL ?_
  repeat (first | refine aH ?_ | refine aF ?_ | refine aD ?_)
  refine aM ?_
  refine fp ?_
  simp only [dS.at, cK.ok.injEq, G.p.injEq, P.bool.injEq, true_and, and_true]
  first
  | (rw [decide_eq_false (fun e : a = b => by subst e; omega)]; done)
  | (rw [decide_eq_false (fun e : a = b => dX hx hy (by assumption) (by rw [e]))]; done)
  | (rw [decide_eq_false (fun e : a = b => by subst e; simp_all)]; done)
  | exact (vQ (by omega) (by omega) (by rw [← hkn, List.take_of_length_le hkl]) (dG htj (by omega) (by omega)))
 ·replace hb1 := hB.h {} hb1
  try rw [eqI] at hb1
  iterate 7 refine w0 ?_
  refine v0 ?_
  apply aC
  repeat apply aA
  refine cB (k1 := fun hb2 => ?_) (k0 := fun hb2 => ?_)
  ·replace hb2 := hB.h {} hb2
   try rw [eqI] at hb2
   repeat apply aA
   apply aB
   refine v0 ?_
   apply aC
   repeat apply aA
   refine aL ?_
   repeat (first | refine aH ?_ | refine aF ?_ | refine aD ?_)
   refine aM ?_
   refine fp ?_
   simp only [dS.at, cK.ok.injEq, G.p.injEq, P.bool.injEq, true_and, and_true]
   first
   | (rw [decide_eq_false (fun e : a = b => by subst e; omega)]; done)
   | (rw [decide_eq_false (fun e : a = b => dX hx hy (by assumption) (by rw [e]))]; done)
   | (rw [decide_eq_false (fun e : a = b => by subst e; simp_all)]; done)
   | exact (vQ (by omega) (by omega) (by rw [← hkn, List.take_of_length_le hkl]) (dG htj (by omega) (by omega)))
  ·replace hb2 := hB.h {} hb2
   try rw [eqI] at hb2
   repeat apply aA
   refine aR ?_
   refine cl [2, 3] ?_
   repeat apply aA
   apply aB
   refine v0 ?_
   apply aC
   refine cl [2, 3, 5] ?_
   repeat apply aA
   refine aP ?_
   repeat apply aA
   refine cI (fun mz σ => ∃ k : Nat, (k ≤ a.kn.length) ∧ (a.kn.length ≤ b.kn.length ∧ b.kn.length ≤ a.kn.length) ∧ (a.kn.take k = b.kn.take k) ∧ (a.rs.length ≤ b.rs.length ∧ b.rs.length ≤ a.rs.length) ∧ mz = a.kn.length - k ∧ σ = (sg [(2, .ref 120 0), (3, .ref 130 0), (5, .p (.int .i64 (k : Nat)))] [(120, .cells [.p (.int .i64 a.pl), .p (.int .i64 a.ps), .p (.list (a.kn.map pSp)), .p (.list (a.rs.map pRc)), .p (.int .i64 a.ms)] 0), (130, .cells [.p (.int .i64 b.pl), .p (.int .i64 b.ps), .p (.list (b.kn.map pSp)), .p (.list (b.rs.map pRc)), .p (.int .i64 b.ms)] 0)] A [] : Sg E)) ?_ (fun mz σ hI => ?_)
   ·refine gA [2, 3, 5] ?_
    exact ⟨_, 0, by omega, ⟨by omega, by omega⟩, rfl, ⟨by omega, by omega⟩, rfl, rfl⟩
   obtain ⟨k, hk, ⟨hab1, hab2⟩, htk, ⟨hcd1, hcd2⟩, hnn, rfl⟩ := hI
   repeat apply aA
   apply aB
   iterate 5 refine v0 ?_
   apply aC
   repeat apply aA
   refine cB (k1 := fun hb3 => ?_) (k0 := fun hb3 => ?_)
   ·replace hb3 := hB.h {} hb3
    try rw [eqI] at hb3
    repeat apply aA
    refine aR ?_
    refine cl [2, 3, 5] ?_
    repeat apply aA
    refine aP ?_
    repeat apply aA
    obtain ⟨x, hx⟩ := fQ (l := a.kn) (k := k) (by omega)
    obtain ⟨y, hy⟩ := fQ (l := b.kn) (k := k) (by omega)
    refine rd ?_
    refine d0 0 ?_
    refine d0 1 ?_
    refine d0 2 ?_
    refine d1 3 (hc := aBE.h {}) ?_
    refine d0 4 ?_
    refine d0 5 ?_
    refine d0 6 ?_
    refine d0 7 ?_
    refine d1 8 (hc := aBE.h {}) ?_
    refine d0 9 ?_
    refine d1 10 (hc := aBE.h {}) ?_
    refine dz 11 [0, 1, 0, 7, 15, 0, 32, 0, 224, 480, 1023] ?_
    refine de 11 ?_
    repeat apply aA
    refine cB (k1 := fun hb4 => ?_) (k0 := fun hb4 => ?_)
    ·replace hb4 := hB.h {} hb4
     try rw [eqI] at hb4
     repeat apply aA
     apply aB
     refine v0 ?_
     apply aC
     repeat apply aA
     refine aL ?_
     repeat (first | refine aH ?_ | refine aF ?_ | refine aD ?_)
     refine aM ?_
     refine fp ?_
     simp only [dS.at, cK.ok.injEq, G.p.injEq, P.bool.injEq, true_and, and_true]
     first
     | (rw [decide_eq_false (fun e : a = b => by subst e; omega)]; done)
     | (rw [decide_eq_false (fun e : a = b => dX hx hy (by assumption) (by rw [e]))]; done)
     | (rw [decide_eq_false (fun e : a = b => by subst e; simp_all)]; done)
     | exact (vQ (by omega) (by omega) (by rw [← hkn, List.take_of_length_le hkl]) (dG htj (by omega) (by omega)))
    ·replace hb4 := hB.h {} hb4
     try rw [eqI] at hb4
     repeat apply aA
     refine aR ?_
     refine cl [2, 3, 5] ?_
     repeat apply aA
     apply aB
     refine v0 ?_
     refine v1 (hc := aBE.h {}) ?_
     refine v0 ?_
     apply aC
     refine eC [2, 3, 5] (h := ?_) (hV := ?_) (n' := a.kn.length - (k + 1))
     ·omega
     exact ⟨k + 1, by omega, ⟨hab1, hab2⟩, kL hx hy htk (by assumption), ⟨hcd1, hcd2⟩, rfl, rfl⟩
   ·replace hb3 := hB.h {} hb3
    try rw [eqI] at hb3
    repeat apply aA
    refine bV ?_
    repeat (first | refine bH ?_ | refine aY ?_ | refine bC ?_ | refine bI rfl ?_)
    refine cl [2, 3] ?_
    repeat apply aA
    apply aB
    refine v0 ?_
    apply aC
    refine cl [2, 3, 6] ?_
    repeat apply aA
    refine aP ?_
    repeat apply aA
    refine cI (fun mz σ => ∃ j : Nat, (j ≤ a.rs.length) ∧ (a.rs.length ≤ b.rs.length ∧ b.rs.length ≤ a.rs.length) ∧ (a.rs.take j = b.rs.take j) ∧ (a.kn.take b.kn.length = b.kn) ∧ mz = a.rs.length - j ∧ σ = (sg [(2, .ref 120 0), (3, .ref 130 0), (6, .p (.int .i64 (j : Nat)))] [(120, .cells [.p (.int .i64 a.pl), .p (.int .i64 a.ps), .p (.list (a.kn.map pSp)), .p (.list (a.rs.map pRc)), .p (.int .i64 a.ms)] 0), (130, .cells [.p (.int .i64 b.pl), .p (.int .i64 b.ps), .p (.list (b.kn.map pSp)), .p (.list (b.rs.map pRc)), .p (.int .i64 b.ms)] 0)] A [] : Sg E)) ?_ (fun mz σ hI => ?_)
    ·refine gA [2, 3, 6] ?_
     exact ⟨_, 0, by omega, ⟨by omega, by omega⟩, rfl, by rw [dG htk (by omega) (by omega), List.take_length], rfl, rfl⟩
    obtain ⟨j, hj, ⟨hcd1, hcd2⟩, htj, hkn, hnj, rfl⟩ := hI
    have hkl : a.kn.length ≤ b.kn.length := by omega
    repeat apply aA
    apply aB
    iterate 5 refine v0 ?_
    apply aC
    repeat apply aA
    refine cB (k1 := fun hb5 => ?_) (k0 := fun hb5 => ?_)
    ·replace hb5 := hB.h {} hb5
     try rw [eqI] at hb5
     repeat apply aA
     refine aR ?_
     refine cl [2, 3, 6] ?_
     repeat apply aA
     refine aP ?_
     repeat apply aA
     obtain ⟨x, hx⟩ := fQ (l := a.rs) (k := j) (by omega)
     obtain ⟨y, hy⟩ := fQ (l := b.rs) (k := j) (by omega)
     refine rd ?_
     refine d0 0 ?_
     refine d0 1 ?_
     refine d0 2 ?_
     refine d1 3 (hc := aBE.h {}) ?_
     refine d0 4 ?_
     refine d0 5 ?_
     refine d0 6 ?_
     refine d0 7 ?_
     refine d1 8 (hc := aBE.h {}) ?_
     refine d0 9 ?_
     refine d1 10 (hc := aBE.h {}) ?_
     refine dz 11 [0, 1, 0, 7, 15, 0, 32, 0, 224, 480, 1023] ?_
     refine de 11 ?_
     repeat apply aA
     refine cB (k1 := fun hb6 => ?_) (k0 := fun hb6 => ?_)
     ·replace hb6 := hB.h {} hb6
      try rw [eqI] at hb6
      repeat apply aA
      apply aB
      refine v0 ?_
      apply aC
      repeat apply aA
      refine aL ?_
      repeat (first | refine aH ?_ | refine aF ?_ | refine aD ?_)
      refine aM ?_
      refine fp ?_
      simp only [dS.at, cK.ok.injEq, G.p.injEq, P.bool.injEq, true_and, and_true]
      first
      | (rw [decide_eq_false (fun e : a = b => by subst e; omega)]; done)
      | (rw [decide_eq_false (fun e : a = b => dX hx hy (by assumption) (by rw [e]))]; done)
      | (rw [decide_eq_false (fun e : a = b => by subst e; simp_all)]; done)
      | exact (vQ (by omega) (by omega) (by rw [← hkn, List.take_of_length_le hkl]) (dG htj (by omega) (by omega)))
     ·replace hb6 := hB.h {} hb6
      try rw [eqI] at hb6
      repeat apply aA
      refine aR ?_
      refine cl [2, 3, 6] ?_
      repeat apply aA
      apply aB
      refine v0 ?_
      refine v1 (hc := aBE.h {}) ?_
      refine v0 ?_
      apply aC
      refine eC [2, 3, 6] (h := ?_) (hV := ?_) (n' := a.rs.length - (j + 1))
      ·omega
      exact ⟨j + 1, by omega, ⟨hcd1, hcd2⟩, kL hx hy htj (by assumption), hkn, rfl, rfl⟩
    ·replace hb5 := hB.h {} hb5
     try rw [eqI] at hb5
     repeat apply aA
     refine bV ?_
     repeat (first | refine bH ?_ | refine aY ?_ | refine bC ?_ | refine bI rfl ?_)
     refine cl [2, 3] ?_
     repeat apply aA
     apply aB
     iterate 6 refine v0 ?_
     refine b0 (k1 := fun hb7 => ?_) (k0 := fun hb7 => ?_)
     ·replace hb7 := hB.h {} hb7
      try rw [eqI] at hb7
      iterate 5 refine w0 ?_
      iterate 2 refine v0 ?_
      refine b0 (k1 := fun hb8 => ?_) (k0 := fun hb8 => ?_)
      ·replace hb8 := hB.h {} hb8
       try rw [eqI] at hb8
       iterate 5 refine w0 ?_
       iterate 2 refine v0 ?_
       apply aC
       repeat apply aA
       refine aL ?_
       repeat (first | refine aH ?_ | refine aF ?_ | refine aD ?_)
       refine aM ?_
       refine fp ?_
       simp only [dS.at, cK.ok.injEq, G.p.injEq, P.bool.injEq, true_and, and_true]
       first
       | (rw [decide_eq_false (fun e : a = b => by subst e; omega)]; done)
       | (rw [decide_eq_false (fun e : a = b => dX hx hy (by assumption) (by rw [e]))]; done)
       | (rw [decide_eq_false (fun e : a = b => by subst e; simp_all)]; done)
       | exact (vQ (by omega) (by omega) (by rw [← hkn, List.take_of_length_le hkl]) (dG htj (by omega) (by omega)))
      ·replace hb8 := hB.h {} hb8
       try rw [eqI] at hb8
       iterate 5 refine x0 ?_
       iterate 2 refine v0 ?_
       apply aC
       repeat apply aA
       refine aL ?_
       repeat (first | refine aH ?_ | refine aF ?_ | refine aD ?_)
       refine aM ?_
       refine fp ?_
       simp only [dS.at, cK.ok.injEq, G.p.injEq, P.bool.injEq, true_and, and_true]
       first
       | (rw [decide_eq_false (fun e : a = b => by subst e; omega)]; done)
       | (rw [decide_eq_false (fun e : a = b => dX hx hy (by assumption) (by rw [e]))]; done)
       | (rw [decide_eq_false (fun e : a = b => by subst e; simp_all)]; done)
       | exact (vQ (by omega) (by omega) (by rw [← hkn, List.take_of_length_le hkl]) (dG htj (by omega) (by omega)))
     ·replace hb7 := hB.h {} hb7
      try rw [eqI] at hb7
      iterate 5 refine x0 ?_
      iterate 2 refine v0 ?_
      iterate 5 refine x0 ?_
      iterate 2 refine v0 ?_
      apply aC
      repeat apply aA
      refine aL ?_
      repeat (first | refine aH ?_ | refine aF ?_ | refine aD ?_)
      refine aM ?_
      refine fp ?_
      simp only [dS.at, cK.ok.injEq, G.p.injEq, P.bool.injEq, true_and, and_true]
      first
      | (rw [decide_eq_false (fun e : a = b => by subst e; omega)]; done)
      | (rw [decide_eq_false (fun e : a = b => dX hx hy (by assumption) (by rw [e]))]; done)
      | (rw [decide_eq_false (fun e : a = b => by subst e; simp_all)]; done)
      | exact (vQ (by omega) (by omega) (by rw [← hkn, List.take_of_length_le hkl]) (dG htj (by omega) (by omega)))
end
section
open Go.Gh
structure iD (c : Prop) : Prop where
 h : c := by (first | exact True.intro | omega | (simp only [inI]; omega) | (simp [P.size]; done) | ((repeat' apply And.intro) <;> (first | trivial | omega | (simp only [List.length_map]; omega) | (intro z hz; obtain ⟨y, _, rfl⟩ := List.mem_map.1 hz; rfl)); done) | kernel_rfl | omega | (simp only [inI]; omega) | (simp [P.size, bR, bF, bN, bB, cR, good, G.one, P.one, P.cells] <;> first | omega | assumption | simp_all))
theorem aNQ {x y : Ngt} (h1 : x.day = y.day) (h2 : x.sp = y.sp) : x = y := by cases x; cases y; simp_all
theorem aOO : aJ Tryz.prog 34 := aJ.mk Tryz.func34 (by kernel_rfl) rfl
theorem aLr (a b : Sch) (h3 : a.ni.length ≤ 1048576) (h4 : b.ni.length ≤ 1048576) (h5 : ∀ n ∈ a.ni, n.sp.length ≤ 1048576) (h6 : ∀ n ∈ b.ni, n.sp.length ≤ 1048576) : bZ Tryz.prog 34 [kI a, kI b] (.ok (.bool (decide (a = b)))) := by
 refine bS Tryz.func34 (rfl : Tryz.f34.body = some _) rfl ?_
 intro E A C hN hL
 replace hN : C.N = 77 := hN
 simp only [Gh.num, List.map_cons, List.map_nil, Nat.reduceAdd]
 have hpss : ∀ s : Spt, pP s = .agg [.int .i64 s.e.1, .int .i64 s.e.2, .int .i64 s.n.1, .int .i64 s.n.2] := fun _ => rfl
 have hpsn : ∀ s : Ngt, jQ s = .agg [.int .i64 s.day, .list (s.sp.map pP)] := fun _ => rfl
 have hg24 := aDg 3
 have hg79 := aNO 3
 unfold kI
 repeat apply aA
 apply aB
 refine n1 120 false (hc := iD.h {}) ?_
 refine n1 130 false (hc := iD.h {}) ?_
 refine v0 ?_
 apply aC
 refine cl [2, 3] ?_
 repeat apply aA
 apply aB
 iterate 7 refine v0 ?_
 apply aC
 repeat apply aA
 refine cB (k1 := fun hb1 => ?_) (k0 := fun hb1 => ?_)
 ·replace hb1 := hB.h {} hb1
  try rw [eqI] at hb1
  repeat apply aA
  apply aB
  refine v0 ?_
  apply aC
  repeat apply aA
  refine aL ?_
  repeat (first | refine aH ?_ | refine aF ?_ | refine aD ?_)
  refine aM ?_
  refine fp ?_
  simp only [dS.at, cK.ok.injEq, G.p.injEq, P.bool.injEq, true_and, and_true]
  first
  | (rw [decide_eq_false (fun e : a = b => by subst e; omega)]; done)
  | (rw [decide_eq_false (fun e : a = b => dX hx hy (fun e2 : x = y => dX hz hw (by assumption) (by rw [e2])) (by rw [e]))]; done)
  | (rw [decide_eq_false (fun e : a = b => dX hx hy (fun e2 : x = y => by subst e2; omega) (by rw [e]))]; done)
  | (rw [decide_eq_false (fun e : a = b => by subst e; simp_all)]; done)
  | exact (yR (by assumption) (dG htk (by omega) (by omega)))
 ·replace hb1 := hB.h {} hb1
  try rw [eqI] at hb1
  repeat apply aA
  refine aR ?_
  refine cl [2, 3] ?_
  repeat apply aA
  apply aB
  refine v0 ?_
  apply aC
  refine cl [2, 3, 5] ?_
  repeat apply aA
  refine aP ?_
  repeat apply aA
  refine cI (fun mz σ => ∃ k : Nat, (k ≤ a.ni.length) ∧ (a.ni.length ≤ b.ni.length ∧ b.ni.length ≤ a.ni.length) ∧ (a.ni.take k = b.ni.take k) ∧ mz = a.ni.length - k ∧ σ = (sg [(2, .ref 120 0), (3, .ref 130 0), (5, .p (.int .i64 (k : Nat)))] [(120, .cells [.p (.int .i64 a.v.1), .p (.int .i64 a.v.2), .p (.list (a.ni.map jQ)), .p (.int .i64 a.st)] 0), (130, .cells [.p (.int .i64 b.v.1), .p (.int .i64 b.v.2), .p (.list (b.ni.map jQ)), .p (.int .i64 b.st)] 0)] A [] : Sg E)) ?_ (fun mz σ hI => ?_)
  ·refine gA [2, 3, 5] ?_
   exact ⟨_, 0, by omega, ⟨by omega, by omega⟩, rfl, rfl, rfl⟩
  obtain ⟨k, hk, ⟨hab1, hab2⟩, htk, hnn, rfl⟩ := hI
  repeat apply aA
  apply aB
  iterate 5 refine v0 ?_
  apply aC
  repeat apply aA
  refine cB (k1 := fun hb2 => ?_) (k0 := fun hb2 => ?_)
  ·replace hb2 := hB.h {} hb2
   try rw [eqI] at hb2
   repeat apply aA
   refine aR ?_
   refine cl [2, 3, 5] ?_
   repeat apply aA
   refine aP ?_
   repeat apply aA
   obtain ⟨x, hx⟩ := fQ (l := a.ni) (k := k) (by omega)
   obtain ⟨y, hy⟩ := fQ (l := b.ni) (k := k) (by omega)
   have hxl := h5 x (List.mem_of_getElem? hx)
   have hyl := h6 y (List.mem_of_getElem? hy)
   refine rd ?_
   refine d0 0 ?_
   refine d0 1 ?_
   refine d0 2 ?_
   refine d1 3 (hc := iD.h {}) ?_
   refine d0 4 ?_
   refine d0 5 ?_
   refine d0 6 ?_
   refine d0 7 ?_
   refine d1 8 (hc := iD.h {}) ?_
   refine d0 9 ?_
   refine dn1 10 160 false (hc := iD.h {}) ?_
   refine dn1 11 170 false (hc := iD.h {}) ?_
   refine ds1 12 (hc := iD.h {}) ?_
   refine ds1 13 (hc := iD.h {}) ?_
   refine dz 14 [0, 1, 0, 7, 15, 0, 32, 0, 224, 480, 0, 0, 3103, 8191] ?_
   refine de 14 ?_
   refine cl [2, 3, 5, 6, 7] ?_
   repeat apply aA
   apply aB
   iterate 6 refine v0 ?_
   refine b0 (k1 := fun hb3 => ?_) (k0 := fun hb3 => ?_)
   ·replace hb3 := hB.h {} hb3
    try rw [eqI] at hb3
    iterate 7 refine x0 ?_
    refine v0 ?_
    apply aC
    repeat apply aA
    refine cT ?_
    repeat apply aA
    apply aB
    refine v0 ?_
    apply aC
    repeat apply aA
    refine aL ?_
    repeat (first | refine aH ?_ | refine aF ?_ | refine aD ?_)
    refine aM ?_
    refine fp ?_
    simp only [dS.at, cK.ok.injEq, G.p.injEq, P.bool.injEq, true_and, and_true]
    first
    | (rw [decide_eq_false (fun e : a = b => by subst e; omega)]; done)
    | (rw [decide_eq_false (fun e : a = b => dX hx hy (fun e2 : x = y => dX hz hw (by assumption) (by rw [e2])) (by rw [e]))]; done)
    | (rw [decide_eq_false (fun e : a = b => dX hx hy (fun e2 : x = y => by subst e2; omega) (by rw [e]))]; done)
    | (rw [decide_eq_false (fun e : a = b => by subst e; simp_all)]; done)
    | exact (yR (by assumption) (dG htk (by omega) (by omega)))
   ·replace hb3 := hB.h {} hb3
    try rw [eqI] at hb3
    iterate 7 refine w0 ?_
    refine v0 ?_
    apply aC
    repeat apply aA
    refine cB (k1 := fun hb4 => ?_) (k0 := fun hb4 => ?_)
    ·replace hb4 := hB.h {} hb4
     try rw [eqI] at hb4
     repeat apply aA
     apply aB
     refine v0 ?_
     apply aC
     repeat apply aA
     refine aL ?_
     repeat (first | refine aH ?_ | refine aF ?_ | refine aD ?_)
     refine aM ?_
     refine fp ?_
     simp only [dS.at, cK.ok.injEq, G.p.injEq, P.bool.injEq, true_and, and_true]
     first
     | (rw [decide_eq_false (fun e : a = b => by subst e; omega)]; done)
     | (rw [decide_eq_false (fun e : a = b => dX hx hy (fun e2 : x = y => dX hz hw (by assumption) (by rw [e2])) (by rw [e]))]; done)
     | (rw [decide_eq_false (fun e : a = b => dX hx hy (fun e2 : x = y => by subst e2; omega) (by rw [e]))]; done)
     | (rw [decide_eq_false (fun e : a = b => by subst e; simp_all)]; done)
     | exact (yR (by assumption) (dG htk (by omega) (by omega)))
    ·replace hb4 := hB.h {} hb4
     try rw [eqI] at hb4
     repeat apply aA
     refine aR ?_
     refine cl [2, 3, 5, 6, 7] ?_
     repeat apply aA
     apply aB
     refine v0 ?_
     apply aC
     refine cl [2, 3, 5, 6, 7, 8] ?_
     repeat apply aA
     refine aP ?_
     repeat apply aA
     refine cI (fun mz σ => ∃ j : Nat, (j ≤ x.sp.length) ∧ (x.sp.length ≤ y.sp.length ∧ y.sp.length ≤ x.sp.length) ∧ (x.sp.take j = y.sp.take j) ∧ (x.day ≤ y.day ∧ y.day ≤ x.day) ∧ mz = x.sp.length - j ∧ σ = (sg [(2, .ref 120 0), (3, .ref 130 0), (5, .p (.int .i64 (k : Nat))), (6, .ref 160 0), (7, .ref 170 0), (8, .p (.int .i64 (j : Nat)))] [(120, .cells [.p (.int .i64 a.v.1), .p (.int .i64 a.v.2), .p (.list (a.ni.map jQ)), .p (.int .i64 a.st)] 0), (130, .cells [.p (.int .i64 b.v.1), .p (.int .i64 b.v.2), .p (.list (b.ni.map jQ)), .p (.int .i64 b.st)] 0), (160, .cells [.p (.int .i64 x.day), .p (.list (x.sp.map pP))] 0), (170, .cells [.p (.int .i64 y.day), .p (.list (y.sp.map pP))] 0)] A [] : Sg E)) ?_ (fun mz σ hI => ?_)
     ·refine gA [2, 3, 5, 6, 7, 8] ?_
      exact ⟨_, 0, by omega, ⟨by omega, by omega⟩, rfl, ⟨by omega, by omega⟩, rfl, rfl⟩
     obtain ⟨j, hj, ⟨hcd1, hcd2⟩, htj, ⟨hd1, hd2⟩, hnj, rfl⟩ := hI
     repeat apply aA
     apply aB
     iterate 5 refine v0 ?_
     apply aC
     repeat apply aA
     refine cB (k1 := fun hb5 => ?_) (k0 := fun hb5 => ?_)
     ·replace hb5 := hB.h {} hb5
      try rw [eqI] at hb5
      repeat apply aA
      refine aR ?_
      refine cl [2, 3, 5, 6, 7, 8] ?_
      repeat apply aA
      refine aP ?_
      repeat apply aA
      obtain ⟨z, hz⟩ := fQ (l := x.sp) (k := j) (by omega)
      obtain ⟨w, hw⟩ := fQ (l := y.sp) (k := j) (by omega)
      refine rd ?_
      refine d0 0 ?_
      refine d0 1 ?_
      refine d0 2 ?_
      refine d1 3 (hc := iD.h {}) ?_
      refine d0 4 ?_
      refine d0 5 ?_
      refine d0 6 ?_
      refine d0 7 ?_
      refine d1 8 (hc := iD.h {}) ?_
      refine d0 9 ?_
      refine d1 10 (hc := iD.h {}) ?_
      refine dz 11 [0, 1, 0, 7, 15, 0, 32, 0, 224, 480, 1023] ?_
      refine de 11 ?_
      repeat apply aA
      refine cB (k1 := fun hb6 => ?_) (k0 := fun hb6 => ?_)
      ·replace hb6 := hB.h {} hb6
       try rw [eqI] at hb6
       repeat apply aA
       apply aB
       refine v0 ?_
       apply aC
       repeat apply aA
       refine aL ?_
       repeat (first | refine aH ?_ | refine aF ?_ | refine aD ?_)
       refine aM ?_
       refine fp ?_
       simp only [dS.at, cK.ok.injEq, G.p.injEq, P.bool.injEq, true_and, and_true]
       first
       | (rw [decide_eq_false (fun e : a = b => by subst e; omega)]; done)
       | (rw [decide_eq_false (fun e : a = b => dX hx hy (fun e2 : x = y => dX hz hw (by assumption) (by rw [e2])) (by rw [e]))]; done)
       | (rw [decide_eq_false (fun e : a = b => dX hx hy (fun e2 : x = y => by subst e2; omega) (by rw [e]))]; done)
       | (rw [decide_eq_false (fun e : a = b => by subst e; simp_all)]; done)
       | exact (yR (by assumption) (dG htk (by omega) (by omega)))
      ·replace hb6 := hB.h {} hb6
       try rw [eqI] at hb6
       repeat apply aA
       refine aR ?_
       refine cl [2, 3, 5, 6, 7, 8] ?_
       repeat apply aA
       apply aB
       refine v0 ?_
       refine v1 (hc := iD.h {}) ?_
       refine v0 ?_
       apply aC
       refine eC [2, 3, 5, 6, 7, 8] (h := ?_) (hV := ?_) (n' := x.sp.length - (j + 1))
       ·omega
       exact ⟨j + 1, by omega, ⟨hcd1, hcd2⟩, kL hz hw htj (by assumption), ⟨hd1, hd2⟩, rfl, rfl⟩
     ·replace hb5 := hB.h {} hb5
      try rw [eqI] at hb5
      repeat apply aA
      refine bV ?_
      repeat (first | refine bH ?_ | refine aY ?_ | refine bC ?_ | refine bI rfl ?_)
      refine cl [2, 3, 5] ?_
      repeat apply aA
      apply aB
      refine v0 ?_
      refine v1 (hc := iD.h {}) ?_
      refine v0 ?_
      apply aC
      refine eC [2, 3, 5] (h := ?_) (hV := ?_) (n' := a.ni.length - (k + 1))
      ·omega
      exact ⟨k + 1, by omega, ⟨hab1, hab2⟩, kL hx hy htk (aNQ (by omega) (dG htj (by omega) (by omega))), rfl, rfl⟩
  ·replace hb2 := hB.h {} hb2
   try rw [eqI] at hb2
   repeat apply aA
   refine bV ?_
   repeat (first | refine bH ?_ | refine aY ?_ | refine bC ?_ | refine bI rfl ?_)
   refine cl [2, 3] ?_
   repeat apply aA
   apply aB
   iterate 4 refine v0 ?_
   refine v1 (hc := iD.h {}) ?_
   refine v0 ?_
   refine b0 (k1 := fun hb7 => ?_) (k0 := fun hb7 => ?_)
   ·replace hb7 := hB.h {} hb7
    try rw [eqI] at hb7
    iterate 5 refine w0 ?_
    iterate 2 refine v0 ?_
    apply aC
    repeat apply aA
    refine aL ?_
    repeat (first | refine aH ?_ | refine aF ?_ | refine aD ?_)
    refine aM ?_
    refine fp ?_
    simp only [dS.at, cK.ok.injEq, G.p.injEq, P.bool.injEq, true_and, and_true]
    first
    | (rw [decide_eq_false (fun e : a = b => by subst e; omega)]; done)
    | (rw [decide_eq_false (fun e : a = b => dX hx hy (fun e2 : x = y => dX hz hw (by assumption) (by rw [e2])) (by rw [e]))]; done)
    | (rw [decide_eq_false (fun e : a = b => dX hx hy (fun e2 : x = y => by subst e2; omega) (by rw [e]))]; done)
    | (rw [decide_eq_false (fun e : a = b => by subst e; simp_all)]; done)
    | exact (yR (by assumption) (dG htk (by omega) (by omega)))
   ·replace hb7 := hB.h {} hb7
    try rw [eqI] at hb7
    iterate 5 refine x0 ?_
    iterate 2 refine v0 ?_
    apply aC
    repeat apply aA
    refine aL ?_
    repeat (first | refine aH ?_ | refine aF ?_ | refine aD ?_)
    refine aM ?_
    refine fp ?_
    simp only [dS.at, cK.ok.injEq, G.p.injEq, P.bool.injEq, true_and, and_true]
    first
    | (rw [decide_eq_false (fun e : a = b => by subst e; omega)]; done)
    | (rw [decide_eq_false (fun e : a = b => dX hx hy (fun e2 : x = y => dX hz hw (by assumption) (by rw [e2])) (by rw [e]))]; done)
    | (rw [decide_eq_false (fun e : a = b => dX hx hy (fun e2 : x = y => by subst e2; omega) (by rw [e]))]; done)
    | (rw [decide_eq_false (fun e : a = b => by subst e; simp_all)]; done)
    | exact (yR (by assumption) (dG htk (by omega) (by omega)))
theorem aOP : aJ Tryz.prog 33 := aJ.mk Tryz.func33 (by kernel_rfl) rfl
theorem aLs (a b : List UInt8) : bZ Tryz.prog 33 [.list (u8s a), .list (u8s b)] (.ok (.bool (decide (a = b)))) := by
 refine bS Tryz.func33 (rfl : Tryz.f33.body = some _) rfl ?_
 intro E A C hN hL
 replace hN : C.N = 10 := hN
 simp only [Gh.num, List.map_cons, List.map_nil, Nat.reduceAdd]
 repeat apply aA
 apply aB
 refine v0 ?_
 apply aC
 refine cl [0, 1] ?_
 repeat apply aA
 apply aB
 refine v0 ?_
 refine bs0 a (hx := by (simp only [gev, aT, Nat.reduceEqDiff, reduceIte] <;> rfl)) ?_
 refine v0 ?_
 refine bs0 b (hx := by (simp only [gev, aT, Nat.reduceEqDiff, reduceIte] <;> rfl)) ?_
 iterate 2 refine v0 ?_
 apply aC
 repeat apply aA
 refine aL ?_
 repeat (first | refine aH ?_ | refine aF ?_ | refine aD ?_)
 refine aM ?_
 refine fp ?_
 rfl
theorem iZ : aJ Tryz.prog 41 := aJ.mk Tryz.func41 (by kernel_rfl) rfl
theorem qM (a b : Int) : bZ Tryz.prog 41 [.int .i64 a, .int .i64 b] (.ok (.agg [.int .i64 a, .int .i64 b])) := by
 refine bS Tryz.func41 (rfl : Tryz.f41.body = some _) rfl ?_
 intro E A C hN hL
 replace hN : C.N = 8 := hN
 simp only [Gh.num, List.map_cons, List.map_nil, Nat.reduceAdd]
 repeat apply aA
 apply aB
 refine n1 140 false (hc := iD.h {}) ?_
 apply aC
 refine cl [0, 1, 4] ?_
 repeat apply aA
 apply aB
 iterate 3 refine v0 ?_
 refine s1 (hc := iD.h {}) ?_
 apply aC
 repeat apply aA
 refine aL ?_
 repeat (first | refine aH ?_ | refine aF ?_ | refine aD ?_)
 refine aM ?_
 refine fp ?_
 rfl
def exM : Msr := ⟨2, (2900, 3100), (-3, 3), [(-2, 2), (0, 5), (1, 1), (-4, 0)], [⟨0, 500, false⟩, ⟨0, 2504, true⟩, ⟨1, 1200, false⟩, ⟨1, 1788, true⟩]⟩
def exP : Plt := ⟨(590, 610), [⟨(1000, 1002), (2000, 2001), true, (5600, 5602), (7200, 7203)⟩, ⟨(3000, 3001), (500, 502), true, (6800, 6801), (6300, 6302)⟩, ⟨(2000, 2001), (1500, 1500), false, (0, 0), (0, 0)⟩]⟩
def exC : Chn := ⟨2, 5, [(0, 1), (1, 2), (2, 3), (0, 4), (4, 3)], [(0, 0, 1), (0, 2, 3), (1, 0, 4), (0, 3, 0)], 1⟩
def exS : Sch := ⟨(-20, 20), [⟨10, [⟨(100, 102), (50, 50)⟩]⟩], 1⟩
theorem aL4 : aJ Tryz.prog 45 := aJ.mk Tryz.func45 (by kernel_rfl) rfl
theorem aL5  : bZ Tryz.prog 45 [] (.ok (jT exM)) := by
 refine bS Tryz.func45 (rfl : Tryz.f45.body = some _) rfl ?_
 intro E A C hN hL
 replace hN : C.N = 17 := hN
 simp only [Gh.num, List.map_cons, List.map_nil, Nat.reduceAdd]
 repeat apply aA
 apply aB
 refine n1 100 false (hc := iD.h {}) ?_
 apply aC
 refine cl [0] ?_
 repeat apply aA
 apply aB
 iterate 4 refine pc0 (spec := qM _ _) (hent := iZ) ?_
 refine n1 160 false (hc := iD.h {}) ?_
 refine pc0 (spec := qM _ _) (hent := iZ) ?_
 refine v0 ?_
 refine n1 110 false (hc := iD.h {}) ?_
 refine s1 (hc := iD.h {}) ?_
 apply aC
 refine cl [0, 1] ?_
 repeat apply aA
 refine rd ?_
 refine d0 0 ?_
 refine oT 1 (spec := qM _ _) (hent := iZ) ?_
 refine d0 2 ?_
 refine d0 3 ?_
 refine d0 4 ?_
 refine d0 5 ?_
 refine dn1 6 250 false (hc := iD.h {}) ?_
 refine d0 7 ?_
 refine ds1 8 (hc := iD.h {}) ?_
 refine dz 9 [0, 0, 0, 0, 0, 0, 60, 127, 255] ?_
 refine de 9 ?_
 repeat apply aA
 refine aL ?_
 repeat (first | refine aH ?_ | refine aF ?_ | refine aD ?_)
 refine aM ?_
 refine fp ?_
 rfl
theorem aL6 : aJ Tryz.prog 46 := aJ.mk Tryz.func46 (by kernel_rfl) rfl
theorem aL7  : bZ Tryz.prog 46 [] (.ok (nF exP)) := by
 refine bS Tryz.func46 (rfl : Tryz.f46.body = some _) rfl ?_
 intro E A C hN hL
 replace hN : C.N = 17 := hN
 simp only [Gh.num, List.map_cons, List.map_nil, Nat.reduceAdd]
 repeat apply aA
 apply aB
 refine n1 100 false (hc := iD.h {}) ?_
 apply aC
 refine cl [0] ?_
 repeat apply aA
 apply aB
 iterate 5 refine pc0 (spec := qM _ _) (hent := iZ) ?_
 refine v0 ?_
 iterate 4 refine pc0 (spec := qM _ _) (hent := iZ) ?_
 refine v0 ?_
 iterate 2 refine pc0 (spec := qM _ _) (hent := iZ) ?_
 refine v0 ?_
 refine n1 250 false (hc := iD.h {}) ?_
 refine v0 ?_
 refine s1 (hc := iD.h {}) ?_
 apply aC
 repeat apply aA
 refine aL ?_
 repeat (first | refine aH ?_ | refine aF ?_ | refine aD ?_)
 refine aM ?_
 refine fp ?_
 rfl
theorem aL8 : aJ Tryz.prog 47 := aJ.mk Tryz.func47 (by kernel_rfl) rfl
theorem aL9  : bZ Tryz.prog 47 [] (.ok (nG exC)) := by
 refine bS Tryz.func47 (rfl : Tryz.f47.body = some _) rfl ?_
 intro E A C hN hL
 replace hN : C.N = 13 := hN
 simp only [Gh.num, List.map_cons, List.map_nil, Nat.reduceAdd]
 repeat apply aA
 apply aB
 refine n1 100 false (hc := iD.h {}) ?_
 apply aC
 refine cl [0] ?_
 repeat apply aA
 apply aB
 iterate 5 refine v0 ?_
 refine n1 160 false (hc := iD.h {}) ?_
 iterate 4 refine v0 ?_
 refine n1 210 false (hc := iD.h {}) ?_
 refine v0 ?_
 refine s1 (hc := iD.h {}) ?_
 apply aC
 repeat apply aA
 refine aL ?_
 repeat (first | refine aH ?_ | refine aF ?_ | refine aD ?_)
 refine aM ?_
 refine fp ?_
 rfl
theorem aMa : aJ Tryz.prog 48 := aJ.mk Tryz.func48 (by kernel_rfl) rfl
theorem aMb  : bZ Tryz.prog 48 [] (.ok (kI exS)) := by
 refine bS Tryz.func48 (rfl : Tryz.f48.body = some _) rfl ?_
 intro E A C hN hL
 replace hN : C.N = 9 := hN
 simp only [Gh.num, List.map_cons, List.map_nil, Nat.reduceAdd]
 repeat apply aA
 apply aB
 refine n1 100 false (hc := iD.h {}) ?_
 apply aC
 refine cl [0] ?_
 repeat apply aA
 apply aB
 iterate 3 refine pc0 (spec := qM _ _) (hent := iZ) ?_
 refine v0 ?_
 refine n1 150 false (hc := iD.h {}) ?_
 refine v0 ?_
 refine n1 170 false (hc := iD.h {}) ?_
 refine v0 ?_
 refine s1 (hc := iD.h {}) ?_
 apply aC
 repeat apply aA
 refine aL ?_
 repeat (first | refine aH ?_ | refine aF ?_ | refine aD ?_)
 refine aM ?_
 refine fp ?_
 rfl
end
section
open Go.Gh
variable {E : Env Tryz.prog} {A : E.α}
structure yS (c : Prop) : Prop where
 h : c := by (first | exact True.intro | omega | (simp [P.size] <;> first | omega | (intro x a b _ h; subst h; rfl) | (intro a _; rfl)) | (simp [P.size]; exact ⟨by omega, fun a _ => rfl⟩) | omega | (simp only [inI]; omega) | (simp [P.size, bR, bF, bN, bB, cR, good, G.one, P.one, P.cells] <;> first | omega | assumption | simp_all))
theorem aFS (s : Sch) (hv : s.valid = true) : Gh.bE E 28 [.p (kI s)] (aG []) A (fun y => y = .ok (.p (.tuple [.list (u8s (oO s)), .int .i64 0])) (aG []) A) := by
 refine spX 67 Tryz.func28 rfl ?_
 intro C hN hL
 simp only [Gh.num, List.map_cons, List.map_nil, Nat.reduceAdd]
 have hok := aC9 hv
 have hl1 := hok.ni
 have hl2 := hok.sp
 have hv1 := hok.v
 have hsv := gF hok.v
 unfold kI
 have hpss : ∀ s : Spt, pP s = .agg [.int .i64 s.e.1, .int .i64 s.e.2, .int .i64 s.n.1, .int .i64 s.n.2] := fun _ => rfl
 have hpsn : ∀ s : Ngt, jQ s = .agg [.int .i64 s.day, .list (s.sp.map pP)] := fun _ => rfl
 repeat apply aA
 apply aB
 refine n1 110 false (hc := yS.h {}) ?_
 iterate 2 refine v0 ?_
 apply aC
 refine cl [1] ?_
 repeat apply aA
 apply aB
 refine v0 ?_
 refine oc0 [] [] [0] none (spec := aC8 s (by omega) (fun n hn => by have := hl2 n hn; omega)) (hent := aJv) ?_
 refine rb 10 true (h := by (exact hv)) ?_
 refine v0 ?_
 apply aC
 repeat apply aA
 refine cF ?_
 repeat apply aA
 refine aR ?_
 refine cl [1] ?_
 repeat apply aA
 apply aB
 refine n1 220 true (hc := yS.h {}) ?_
 refine v0 ?_
 refine n1 240 false (hc := yS.h {}) ?_
 refine v0 ?_
 apply aC
 refine cl [1, 4] ?_
 repeat apply aA
 rw [show [P.int IntKind.u8 83] = u8s [83] from rfl]
 apply aB
 iterate 3 refine v0 ?_
 refine oc0 [(0, 240), (1, 220)] [] [0, 0] none (spec := tY [83] s.v (by simp) hv1.1 hv1.2) (hent := aCd) ?_
 apply aC
 refine cl [1, 4] ?_
 repeat apply aA
 apply aB
 iterate 6 refine v0 ?_
 refine n1 350 false (hc := yS.h {}) ?_
 refine oc0 [(0, 240), (1, 220)] [350] [0, 1] none (spec := rF ([83] ++ pE s.v) [s.st, (s.ni.length : Int)] (by simp only [List.length_append, List.length_singleton]; omega) (by simp)) (hent := aA9) ?_
 apply aC
 refine cl [1, 4] ?_
 repeat apply aA
 apply aB
 iterate 4 refine v0 ?_
 apply aC
 refine cl [4, 28, 29, 30] ?_
 repeat apply aA
 refine aP ?_
 repeat apply aA
 refine cI (fun mz σ => ∃ k : Nat, (k ≤ s.ni.length) ∧ mz = s.ni.length - k ∧ σ = (sg [(4, .ref 240 0), (28, .p (.list (s.ni.map jQ))), (29, .p (.int .i64 (s.ni.length : Nat))), (30, .p (.int .i64 (k : Nat)))] [(240, .cells [.own 220 (iR s ++ (s.ni.take k).flatMap gL).length] 0), (220, .arr 5 1 (u8s (iR s ++ (s.ni.take k).flatMap gL)) false)] A [] : Sg E)) ?_ (fun mz σ hI => ?_)
 ·refine gA [4, 28, 29, 30] ?_
  exact ⟨_, 0, by omega, rfl, sgE rfl (by simp [iR])⟩
 obtain ⟨k, hk, hnn, rfl⟩ := hI
 repeat apply aA
 apply aB
 refine v0 ?_
 apply aC
 repeat apply aA
 refine cB (k1 := fun hb1 => ?_) (k0 := fun hb1 => ?_)
 ·replace hb1 := hB.h {} hb1
  repeat apply aA
  refine aR ?_
  refine cl [4, 28, 29, 30] ?_
  repeat apply aA
  refine aP ?_
  repeat apply aA
  obtain ⟨x, hx⟩ := fQ (l := s.ni) (k := k) (by omega)
  have hxm := List.mem_of_getElem? hx
  have hx8 := hok.sp x hxm
  have hbl : (iR s ++ (s.ni.take k).flatMap gL).length ≤ 700 := by have h1 := wW hok; have h2 := gE (wV hok) k; have h3 := hok.ni; rw [List.length_append]; omega
  apply aB
  refine v1 (hc := yS.h {}) ?_
  refine v0 ?_
  refine n1 160 false (hc := yS.h {}) ?_
  refine s1 (hc := yS.h {}) ?_
  apply aC
  refine cl [4, 6, 28, 29, 30] ?_
  repeat apply aA
  apply aB
  iterate 3 refine v0 ?_
  refine oc0 [(0, 240), (1, 220)] [] [0, 0] none (spec := wT (iR s ++ (s.ni.take k).flatMap gL) x.day (by omega) (by have := (hok.day x hxm).1; omega) (by have := (hok.day x hxm).2; omega)) (hent := aGl) ?_
  apply aC
  refine cl [4, 6, 28, 29, 30] ?_
  repeat apply aA
  apply aB
  iterate 4 refine v0 ?_
  refine n1 520 false (hc := yS.h {}) ?_
  refine oc0 [(0, 240), (1, 220)] [520] [0, 1] none (spec := rF (iR s ++ (s.ni.take k).flatMap gL ++ qI (zz x.day)) [(x.sp.length : Int)] (by have := rG (n := x.day) (by have := hok.day x hxm; unfold okN at this; omega); rw [List.length_append]; omega) (by simp)) (hent := aA9) ?_
  apply aC
  refine cl [4, 6, 28, 29, 30] ?_
  repeat apply aA
  apply aB
  iterate 4 refine v0 ?_
  apply aC
  refine cl [4, 28, 29, 30, 45, 46, 47] ?_
  repeat apply aA
  refine aP ?_
  repeat apply aA
  refine cI (fun mz σ => ∃ j : Nat, (j ≤ x.sp.length) ∧ mz = x.sp.length - j ∧ σ = (sg [(4, .ref 240 0), (28, .p (.list (s.ni.map jQ))), (29, .p (.int .i64 (s.ni.length : Nat))), (30, .p (.int .i64 (k : Nat))), (45, .p (.list (x.sp.map pP))), (46, .p (.int .i64 (x.sp.length : Nat))), (47, .p (.int .i64 (j : Nat)))] [(240, .cells [.own 220 ((iR s ++ (s.ni.take k).flatMap gL ++ tN x) ++ (x.sp.take j).flatMap oU).length] 0), (220, .arr 5 1 (u8s ((iR s ++ (s.ni.take k).flatMap gL ++ tN x) ++ (x.sp.take j).flatMap oU)) false)] A [] : Sg E)) ?_ (fun mz σ hI => ?_)
  ·refine gA [4, 28, 29, 30, 45, 46, 47] ?_
   exact ⟨_, 0, by omega, rfl, sgE rfl (by simp [tN])⟩
  obtain ⟨j, hj, hnj, rfl⟩ := hI
  repeat apply aA
  apply aB
  refine v0 ?_
  apply aC
  repeat apply aA
  refine cB (k1 := fun hb2 => ?_) (k0 := fun hb2 => ?_)
  ·replace hb2 := hB.h {} hb2
   repeat apply aA
   refine aR ?_
   refine cl [4, 28, 29, 30, 45, 46, 47] ?_
   repeat apply aA
   refine aP ?_
   repeat apply aA
   obtain ⟨y, hy⟩ := fQ (l := x.sp) (k := j) (by omega)
   have hym := List.mem_of_getElem? hy
   obtain ⟨hye, hyn⟩ := hok.spt x hxm y hym
   have hil : ((iR s ++ (s.ni.take k).flatMap gL ++ tN x) ++ (x.sp.take j).flatMap oU).length ≤ 900 := by have h1 := aBg hok hxm; have h2 := gE (aBf hok hxm) j; have h3 := hok.sp x hxm; rw [List.length_append, List.length_append]; omega
   apply aB
   refine v1 (hc := yS.h {}) ?_
   refine v0 ?_
   refine n1 180 false (hc := yS.h {}) ?_
   refine s1 (hc := yS.h {}) ?_
   apply aC
   refine cl [4, 8, 28, 29, 30, 45, 46, 47] ?_
   repeat apply aA
   apply aB
   iterate 3 refine v0 ?_
   refine oc0 [(0, 240), (1, 220)] [] [0, 0] none (spec := tY ((iR s ++ (s.ni.take k).flatMap gL ++ tN x) ++ (x.sp.take j).flatMap oU) y.e (by omega) hye.1 hye.2) (hent := aCd) ?_
   apply aC
   refine cl [4, 8, 28, 29, 30, 45, 46, 47] ?_
   repeat apply aA
   apply aB
   iterate 3 refine v0 ?_
   refine oc0 [(0, 240), (1, 220)] [] [0, 0] none (spec := tY ((iR s ++ (s.ni.take k).flatMap gL ++ tN x) ++ (x.sp.take j).flatMap oU ++ pE y.e) y.n (by have := gF hye; rw [List.length_append]; omega) hyn.1 hyn.2) (hent := aCd) ?_
   apply aC
   refine cl [4, 28, 29, 30, 45, 46, 47] ?_
   repeat apply aA
   apply aB
   refine v1 (hc := yS.h {}) ?_
   refine v0 ?_
   apply aC
   refine eC [4, 28, 29, 30, 45, 46, 47] (h := ?_) (hV := ?_) (n' := x.sp.length - (j + 1))
   ·omega
   exact ⟨j + 1, by omega, rfl, sgE rfl (by rw [tZ oU hy, oU, List.append_assoc, List.append_assoc])⟩
  ·replace hb2 := hB.h {} hb2
   repeat apply aA
   refine bV ?_
   repeat (first | refine bH ?_ | refine aY ?_ | refine bC ?_ | refine bI rfl ?_)
   refine cl [4, 28, 29, 30] ?_
   repeat apply aA
   obtain rfl : j = x.sp.length := by omega
   rw [List.take_length]
   apply aB
   refine v1 (hc := yS.h {}) ?_
   refine v0 ?_
   apply aC
   refine eC [4, 28, 29, 30] (h := ?_) (hV := ?_) (n' := s.ni.length - (k + 1))
   ·omega
   exact ⟨k + 1, by omega, rfl, sgE rfl (by rw [tZ gL hx, gL, List.append_assoc, List.append_assoc])⟩
 ·replace hb1 := hB.h {} hb1
  repeat apply aA
  refine bV ?_
  repeat (first | refine bH ?_ | refine aY ?_ | refine bC ?_ | refine bI rfl ?_)
  refine cl [4] ?_
  repeat apply aA
  have hbl : (iR s ++ (s.ni.take k).flatMap gL).length ≤ 700 := by have h1 := wW hok; have h2 := gE (wV hok) k; have h3 := hok.ni; rw [List.length_append]; omega
  obtain rfl : k = s.ni.length := by omega
  rw [List.take_length] at hbl ⊢
  have hB0 : iR s ++ s.ni.flatMap gL = uS s := rfl
  rw [hB0] at hbl ⊢
  apply aB
  refine v0 ?_
  refine oc0 [(0, 240), (1, 220)] [] [0] none (spec := aAf (uS s) (by omega)) (hent := aGm) ?_
  apply aC
  refine cl [4] ?_
  repeat apply aA
  apply aB
  iterate 6 refine v0 ?_
  apply aC
  repeat apply aA
  refine pL 220 (by (simp only [aE, aI, Nat.reduceEqDiff, reduceIte] <;> rfl)) ?_
  refine cv 2 .p (hc := by rw [bU]) ?_
  refine aL ?_
  repeat (first | refine aH ?_ | refine aF ?_ | refine aD ?_)
  refine aM ?_
  refine fp2 ?_
  rfl
theorem aEA (s : Sch) (hv : s.valid = true) : bZ Tryz.prog 28 [kI s] (.ok (.tuple [.list (u8s (oO s)), .int .i64 0])) := fun E A => aFS s hv
theorem aNR {b : List UInt8} {s : Sch} (h : qJ b = some s) : yJ (b.take (b.length - 2)) = b ∧ 2 ≤ b.length ∧ b.length ≤ 4096 := by
 obtain ⟨h1, h2⟩ := aFx h
 obtain ⟨_, h3⟩ := aCf h1
 rw [h2] at h3
 unfold aDa at h3
 have h4 := vO h1
 rw [h2] at h4
 refine ⟨Classical.byContradiction fun h5 => h3 (.inr h5), ?_, h4⟩
 apply Nat.le_of_not_lt
 exact fun h5 => h3 (.inl h5)
theorem aH2 (b : List UInt8) (s : Sch) (h : qJ b = some s) : bZ Tryz.prog 30 [.list (u8s b)] (.ok (.tuple [kI s, .int .i64 0])) := fun E A => by
 obtain ⟨h1, h2, h3⟩ := aNR h
 have := aCh (E := E) (A := A) b h3 h2 h1
 rw [show rdS b = .tuple [kI s, .int .i64 0] by unfold rdS; rw [h]] at this
 exact this
theorem aH3 (b : List UInt8) (h1 : b.length ≤ 4096) (h2 : ¬ aDa b) (h : qJ b = none) : bZ Tryz.prog 30 [.list (u8s b)] (.ok (.tuple [kI Sch.z, .int .i64 8])) := fun E A => by
 have h3 : yJ (b.take (b.length - 2)) = b := Classical.byContradiction fun h5 => h2 (.inr h5)
 have h4 : 2 ≤ b.length := Nat.le_of_not_lt fun h5 => h2 (.inl h5)
 have := aCh (E := E) (A := A) b h1 h4 h3
 rw [show rdS b = .tuple [kI Sch.z, .int .i64 8] by unfold rdS; rw [h]] at this
 exact this
theorem aH4 (b : List UInt8) (h1 : b.length ≤ 4096) (h2 : aDa b) : bZ Tryz.prog 30 [.list (u8s b)] (.ok (.tuple [kI Sch.z, .int .i64 11])) := fun E A => by
 by_cases h3 : b.length < 2
 ·exact aHu b h3
 ·exact aHv b h1 (by omega) (h2.resolve_left h3)
def Small (m : Msr) (p : Plt) (c : Chn) (s : Sch) : Prop := (m.se.length ≤ 60 ∧ m.er.length ≤ 60 ∧ p.st.length ≤ 60 ∧ c.kn.length ≤ 60 ∧ c.rs.length ≤ 60 ∧ s.ni.length ≤ 60) ∧ ∀ n ∈ s.ni, n.sp.length ≤ 60
instance decSmall (m : Msr) (p : Plt) (c : Chn) (s : Sch) : Decidable (Small m p c s) := by unfold Small; infer_instance
end
section
open Go.Gh
variable {E : Env Tryz.prog} {C : Cx E} {r : Option Nat} {ops : Array Oper} {Q : GE → Sg E → Prop} {l : List (Nat × G)} {m : List (Nat × Ob)} {A : E.α} {df : List GD}
theorem drb {lo : Nat} {σ0 : Sg E} {ids : List (List Nat × List Nat)} (t : Nat) (b : Bool) {x : Bool} (k : eR C r ops (cD C Q) lo σ0 ids (sg ((t, .p (.bool b)) :: l) m A df)) (hx : bA l t = .p (.bool x) := by (simp only [aT, Nat.reduceEqDiff, reduceIte] <;> rfl)) (h : x = b) : eR C r ops (cD C Q) lo σ0 ids (sg l m A df) := by
 subst h
 rwa [sg, qQ hx] at k
end
section
open Go.Gh
structure aDh (c : Prop) : Prop where
 h : c := by (first | exact True.intro | omega | (simp only [inI]; omega) | (simp [P.size]; done) | kernel_rfl | omega | (simp only [inI]; omega) | (simp [P.size, bR, bF, bN, bB, cR, good, G.one, P.one, P.cells] <;> first | omega | assumption | simp_all))
theorem aKd : exM.valid = true := by decide +kernel
theorem aKe : exP.valid = true := by decide +kernel
theorem aKf : exC.valid = true := by decide +kernel
theorem aMc : exS.valid = true := by decide +kernel
theorem aOQ : txt (gK exM) = [109, 101, 97, 115, 117, 114, 101, 32, 50, 32, 50, 57, 48, 48, 44, 51, 49, 48, 48, 32, 45, 51, 44, 51, 10, 116, 117, 114, 110, 32, 45, 50, 44, 50, 10, 116, 117, 114, 110, 32, 48, 44, 53, 10, 116, 117, 114, 110, 32, 49, 44, 49, 10, 116, 117, 114, 110, 32, 45, 52, 44, 48, 10, 112, 108, 97, 105, 110, 32, 48, 32, 53, 48, 48, 10, 114, 101, 118, 101, 114, 115, 101, 100, 32, 48, 32, 50, 53, 48, 52, 10, 112, 108, 97, 105, 110, 32, 49, 32, 49, 50, 48, 48, 10, 114, 101, 118, 101, 114, 115, 101, 100, 32, 49, 32, 49, 55, 56, 56, 10] := by decide +kernel
theorem aOR : txt (iA exP) = [112, 108, 97, 116, 101, 32, 53, 57, 48, 44, 54, 49, 48, 10, 115, 116, 97, 114, 32, 49, 48, 48, 48, 44, 49, 48, 48, 50, 32, 50, 48, 48, 48, 44, 50, 48, 48, 49, 32, 107, 110, 111, 119, 110, 32, 53, 54, 48, 48, 44, 53, 54, 48, 50, 32, 55, 50, 48, 48, 44, 55, 50, 48, 51, 10, 115, 116, 97, 114, 32, 51, 48, 48, 48, 44, 51, 48, 48, 49, 32, 53, 48, 48, 44, 53, 48, 50, 32, 107, 110, 111, 119, 110, 32, 54, 56, 48, 48, 44, 54, 56, 48, 49, 32, 54, 51, 48, 48, 44, 54, 51, 48, 50, 10, 115, 116, 97, 114, 32, 50, 48, 48, 48, 44, 50, 48, 48, 49, 32, 49, 53, 48, 48, 44, 49, 53, 48, 48, 10] := by decide +kernel
theorem aOS : txt (gW exC) = [99, 104, 97, 105, 110, 32, 50, 32, 53, 32, 49, 10, 107, 110, 111, 119, 115, 32, 48, 32, 49, 10, 107, 110, 111, 119, 115, 32, 49, 32, 50, 10, 107, 110, 111, 119, 115, 32, 50, 32, 51, 10, 107, 110, 111, 119, 115, 32, 48, 32, 52, 10, 107, 110, 111, 119, 115, 32, 52, 32, 51, 10, 108, 111, 97, 110, 32, 48, 32, 48, 32, 49, 10, 108, 111, 97, 110, 32, 48, 32, 50, 32, 51, 10, 108, 111, 97, 110, 32, 49, 32, 48, 32, 52, 10, 108, 111, 97, 110, 32, 48, 32, 51, 32, 48, 10] := by decide +kernel
theorem aOT : oO exS = [83, 39, 80, 1, 1, 20, 1, 200, 1, 4, 100, 0, 26, 179] := by decide +kernel
theorem aOU : sQ (txt (gK exM)) = some exM := aHn aKd
theorem aOV : wR (txt (iA exP)) = some exP := aHl aKe
theorem aOW : wS (txt (gW exC)) = some exC := aHm aKf
theorem aOX : qJ (oO exS) = some exS := (aCf aMc).1
theorem aOY : aJ Tryz.prog 13 := aJ.mk Tryz.func13 (by kernel_rfl) rfl
theorem aLt  : bZ Tryz.prog 13 [] (.ok (.bool true)) := by
 refine bS Tryz.func13 (rfl : Tryz.f13.body = some _) rfl ?_
 intro E A C hN hL
 replace hN : C.N = 123 := hN
 simp only [Gh.num, List.map_cons, List.map_nil, Nat.reduceAdd]
 have hm9 : jT exM = .agg [.list (exM.er.map pSp), .int .i64 exM.ey.1, .int .i64 exM.ey.2, .int .i64 exM.im, .int .i64 exM.su.1, .int .i64 exM.su.2, .list (exM.se.map fS)] := rfl
 have hp9 : nF exP = .agg [.int .i64 exP.sc.1, .int .i64 exP.sc.2, .list (exP.st.map eJ)] := rfl
 have hc9 : nG exC = .agg [.int .i64 exC.pl, .int .i64 exC.ps, .list (exC.kn.map pSp), .list (exC.rs.map pRc), .int .i64 exC.ms] := rfl
 have hs9 : kI exS = .agg [.int .i64 exS.v.1, .int .i64 exS.v.2, .list (exS.ni.map jQ), .int .i64 exS.st] := rfl
 repeat apply aA
 apply aB
 refine v0 ?_
 apply aC
 refine cl [] ?_
 repeat apply aA
 apply aB
 refine pc0 (spec := aL5) (hent := aL4) ?_
 refine pc0 (spec := aFI exM aKd) (hent := aOu) ?_
 iterate 5 refine v0 ?_
 apply aC
 refine cl [1, 2] ?_
 repeat apply aA
 apply aB
 refine pc0 (spec := aL7) (hent := aL6) ?_
 refine pc0 (spec := aFG exP aKe) (hent := aOs) ?_
 iterate 5 refine v0 ?_
 apply aC
 refine cl [1, 2, 3, 4] ?_
 repeat apply aA
 apply aB
 refine pc0 (spec := aL9) (hent := aL8) ?_
 refine pc0 (spec := aFH exC aKf) (hent := aOt) ?_
 iterate 5 refine v0 ?_
 apply aC
 refine cl [1, 2, 3, 4, 5, 6] ?_
 repeat apply aA
 apply aB
 refine pc0 (spec := aMb) (hent := aMa) ?_
 refine pc0 (spec := aEA exS aMc) (hent := aCe) ?_
 iterate 5 refine v0 ?_
 apply aC
 refine cl [1, 2, 3, 4, 5, 6, 7, 8] ?_
 repeat apply aA
 apply aB
 iterate 2 refine v0 ?_
 refine rb 38 false (h := by (first | (rw [aOQ]; simp; done) | rfl)) ?_
 refine v0 ?_
 iterate 2 refine w0 ?_
 refine rb 41 false (h := by (first | rfl | (simp; done) | decide)) ?_
 iterate 2 refine v0 ?_
 iterate 2 refine w0 ?_
 refine rb 45 false (h := by (first | (rw [aOR]; simp; done) | rfl)) ?_
 iterate 2 refine v0 ?_
 iterate 2 refine w0 ?_
 refine rb 49 false (h := by (first | rfl | (simp; done) | decide)) ?_
 iterate 2 refine v0 ?_
 iterate 2 refine w0 ?_
 refine rb 53 false (h := by (first | (rw [aOS]; simp; done) | rfl)) ?_
 iterate 2 refine v0 ?_
 iterate 2 refine w0 ?_
 refine rb 57 false (h := by (first | rfl | (simp; done) | decide)) ?_
 iterate 2 refine v0 ?_
 refine w0 ?_
 refine nw 710 false (hc := aDh.h {}) ?_
 refine pcw (spec := aLs (oO exS) [83, 39, 80, 1, 1, 20, 1, 200, 1, 4, 100, 0, 26, 179]) (hent := aOP) ?_
 refine rb 62 true (h := by (exact decide_eq_true aOT)) ?_
 refine w0 ?_
 iterate 2 refine v0 ?_
 iterate 2 refine w0 ?_
 refine rb 67 false (h := by (first | rfl | (simp; done) | decide)) ?_
 refine v0 ?_
 apply aC
 repeat apply aA
 refine cF ?_
 repeat apply aA
 refine aR ?_
 refine cl [1, 3, 5, 7] ?_
 repeat apply aA
 apply aB
 refine v0 ?_
 refine pc0 (spec := aH0 _ exM (aC6 aKd).2 aOU) (hent := aL3) ?_
 iterate 3 refine v0 ?_
 refine n1 190 false (hc := aDh.h {}) ?_
 refine s1 (hc := aDh.h {}) ?_
 refine v0 ?_
 apply aC
 refine cl [3, 5, 7, 9, 10] ?_
 repeat apply aA
 apply aB
 refine v0 ?_
 refine pc0 (spec := aHW _ exP (aC4 aKe).2 aOV) (hent := aOy) ?_
 iterate 3 refine v0 ?_
 refine n1 210 false (hc := aDh.h {}) ?_
 refine s1 (hc := aDh.h {}) ?_
 refine v0 ?_
 apply aC
 refine cl [5, 7, 9, 10, 11, 12] ?_
 repeat apply aA
 apply aB
 refine v0 ?_
 refine pc0 (spec := aHY _ exC (aC5 aKf).2 aOW) (hent := aOD) ?_
 iterate 3 refine v0 ?_
 refine n1 230 false (hc := aDh.h {}) ?_
 refine s1 (hc := aDh.h {}) ?_
 refine v0 ?_
 apply aC
 refine cl [7, 9, 10, 11, 12, 13, 14] ?_
 repeat apply aA
 apply aB
 refine v0 ?_
 refine pc0 (spec := aH2 _ exS aOX) (hent := aJK) ?_
 iterate 3 refine v0 ?_
 refine n1 250 false (hc := aDh.h {}) ?_
 refine s1 (hc := aDh.h {}) ?_
 refine v0 ?_
 apply aC
 refine cl [9, 10, 11, 12, 13, 14, 15, 16] ?_
 repeat apply aA
 refine rd ?_
 refine d0 0 ?_
 refine oT 1 (spec := aL5) (hent := aL4) ?_
 refine oT 2 (spec := aLo exM exM (by decide) (by decide) (by decide) (by decide)) (hent := aOL) ?_
 refine drb 91 true (h := by (simp)) ?_
 refine d0 3 ?_
 refine dw0 4 ?_
 refine dw0 5 ?_
 refine drb 94 true (h := by (first | rfl | simp)) ?_
 refine d0 6 ?_
 refine d0 7 ?_
 refine dw0 8 ?_
 refine aG3 9 (spec := aL7) (hent := aL6) ?_
 refine aG3 10 (spec := aLp exP exP (by decide) (by decide)) (hent := aOM) ?_
 refine drb 99 true (h := by (simp)) ?_
 refine d0 11 ?_
 refine d0 12 ?_
 refine dw0 13 ?_
 refine dw0 14 ?_
 refine drb 103 true (h := by (first | rfl | simp)) ?_
 refine d0 15 ?_
 refine d0 16 ?_
 refine dw0 17 ?_
 refine aG3 18 (spec := aL9) (hent := aL8) ?_
 refine aG3 19 (spec := aLq exC exC (by decide) (by decide) (by decide) (by decide)) (hent := aON) ?_
 refine drb 108 true (h := by (simp)) ?_
 refine d0 20 ?_
 refine d0 21 ?_
 refine dw0 22 ?_
 refine dw0 23 ?_
 refine drb 112 true (h := by (first | rfl | simp)) ?_
 refine d0 24 ?_
 refine d0 25 ?_
 refine dw0 26 ?_
 refine aG3 27 (spec := aMb) (hent := aMa) ?_
 refine aG3 28 (spec := aLr exS exS (by decide) (by decide) (by decide) (by decide)) (hent := aOO) ?_
 refine drb 117 true (h := by (simp)) ?_
 refine d0 29 ?_
 refine d0 30 ?_
 refine dw0 31 ?_
 refine dw0 32 ?_
 refine drb 121 true (h := by (first | rfl | simp)) ?_
 refine d0 33 ?_
 refine d0 34 ?_
 refine dz 35 [0, 0, 3, 7, 15, 31, 63, 127, 255, 255, 1023, 2047, 4095, 8191, 16383, 32767, 65535, 131071, 131071, 524287, 1048575, 2097151, 4194303, 8388607, 16777215, 33554431, 67108863, 67108863, 268435455, 536870911, 1073741823, 2147483647, 4294967295, 8589934591, 17179869183] ?_
 refine de 35 ?_
 repeat apply aA
 refine aL ?_
 repeat (first | refine aH ?_ | refine aF ?_ | refine aD ?_)
 refine aM ?_
 refine fp ?_
 rfl
end
section
open Go.Gh
structure aH5 (c : Prop) : Prop where
 h : c := by (first | exact True.intro | omega | (simp only [inI]; omega) | ((repeat' apply And.intro) <;> (first | trivial | omega | (simp only [bU, List.length_cons]; omega) | exact dQ _ | exact dQ (_ :: _) | (simp only [inI]; omega)); done) | (have := dQ; simp [P.size, bU, inI] <;> first | omega | exact this _ | exact ⟨this _, by omega⟩ | assumption | grind))
structure aDi (c : Prop) : Prop where
 h : c := by (first | exact True.intro | omega | (simp only [inI]; omega) | (simp [P.size]; done) | kernel_rfl | omega | (simp only [inI]; omega) | (simp [P.size, bR, bF, bN, bB, cR, good, G.one, P.one, P.cells] <;> first | omega | assumption | simp_all))
theorem aOZ : aJ Tryz.prog 35 := aJ.mk Tryz.func35 (by kernel_rfl) rfl
theorem aKg (l : List UInt8) (h : l.length ≤ 900000) : bZ Tryz.prog 35 [.list (u8s l)] (.ok (.int .i64 (chk l : Nat))) := by
 refine bS Tryz.func35 (rfl : Tryz.f35.body = some _) rfl ?_
 intro E A C hN hL
 replace hN : C.N = 21 := hN
 simp only [Gh.num, List.map_cons, List.map_nil, Nat.reduceAdd]
 have hul : ∀ l : List UInt8, (u8s l).length = l.length := bU
 repeat apply aA
 apply aB
 refine v0 ?_
 apply aC
 refine cl [0] ?_
 repeat apply aA
 apply aB
 refine v0 ?_
 apply aC
 refine cl [0, 3] ?_
 repeat apply aA
 apply aB
 refine v0 ?_
 apply aC
 refine cl [0, 3, 4] ?_
 repeat apply aA
 refine aP ?_
 repeat apply aA
 refine cI (fun mz σ => ∃ (k : Nat), (k ≤ l.length) ∧ mz = l.length - k ∧ σ = (sg [(0, .p (.list (u8s l))), (3, .p (.int .i64 (chk (l.take k) : Nat))), (4, .p (.int .i64 (k : Nat)))] [] A [] : Sg E)) ?_ (fun mz σ hI => ?_)
 ·refine gA [0, 3, 4] ?_
  exact ⟨_, 0, by omega, rfl, rfl⟩
 obtain ⟨k, hk, hnn, rfl⟩ := hI
 repeat apply aA
 apply aB
 iterate 4 refine v0 ?_
 apply aC
 repeat apply aA
 refine cB (k1 := fun hb1 => ?_) (k0 := fun hb1 => ?_)
 ·replace hb1 := hB.h {} hb1
  repeat apply aA
  refine aR ?_
  refine cl [0, 3, 4] ?_
  repeat apply aA
  refine aP ?_
  repeat apply aA
  obtain ⟨x, hx⟩ := fQ (l := l) (k := k) (by omega)
  have hxa := aC7 hx
  have hx8 := UInt8.toNat_lt x
  have hck := aFt l k
  apply aB
  refine v0 ?_
  refine v1 (hc := aH5.h {}) ?_
  iterate 2 refine v0 ?_
  refine v1 (hc := aH5.h {}) ?_
  refine v0 ?_
  iterate 3 refine v1 (hc := aH5.h {}) ?_
  refine v0 ?_
  apply aC
  refine cl [0, 3, 4] ?_
  repeat apply aA
  apply aB
  refine v0 ?_
  refine v1 (hc := aH5.h {}) ?_
  refine v0 ?_
  apply aC
  refine eC [0, 3, 4] (h := ?_) (hV := ?_) (n' := l.length - (k + 1))
  ·omega
  exact ⟨k + 1, by omega, rfl, sgE (by rw [aEh hx, Int.tmod_eq_emod_of_nonneg (by omega)]; simp [Int.mul_comm]) rfl⟩
 ·replace hb1 := hB.h {} hb1
  repeat apply aA
  refine bV ?_
  repeat (first | refine bH ?_ | refine aY ?_ | refine bC ?_ | refine bI rfl ?_)
  refine cl [3] ?_
  repeat apply aA
  apply aB
  iterate 2 refine v0 ?_
  apply aC
  repeat apply aA
  refine aL ?_
  repeat (first | refine aH ?_ | refine aF ?_ | refine aD ?_)
  refine aM ?_
  obtain rfl : k = l.length := by omega
  try rw [List.take_length]
  refine fp ?_
  rfl
theorem aPf : qJ [83, 39, 49, 149] = none := by decide +kernel
theorem aO0 : ¬ aDa [83, 39, 49, 149] := by unfold aDa; decide +kernel
theorem aPg : aDa [83, 39, 49, 150] := by unfold aDa; decide +kernel
theorem aPh : sQ [109, 101, 97, 115, 117, 114, 101, 32, 49, 32, 48, 44, 48, 32, 48, 44, 48, 10] = none := by decide +kernel
theorem aLu  : bZ Tryz.prog 5 [] (.ok (.bool true)) := by
 refine bS Tryz.func5 (rfl : Tryz.f5.body = some _) rfl ?_
 intro E A C hN hL
 replace hN : C.N = 41 := hN
 simp only [Gh.num, List.map_cons, List.map_nil, Nat.reduceAdd]
 have hm9 : jT Msr.z = .agg [.list [], .int .i64 0, .int .i64 0, .int .i64 0, .int .i64 0, .int .i64 0, .list []] := rfl
 have hs9 : kI Sch.z = .agg [.int .i64 0, .int .i64 0, .list [], .int .i64 0] := rfl
 repeat apply aA
 apply aB
 refine v0 ?_
 apply aC
 refine cl [] ?_
 repeat apply aA
 apply aB
 refine n1 180 false (hc := aDi.h {}) ?_
 refine pc0 (spec := aH3 [83, 39, 49, 149] (by decide) aO0 aPf) (hent := aJK) ?_
 iterate 3 refine v0 ?_
 refine n1 110 false (hc := aDi.h {}) ?_
 refine s1 (hc := aDi.h {}) ?_
 refine v0 ?_
 apply aC
 refine cl [2] ?_
 repeat apply aA
 apply aB
 refine n1 230 false (hc := aDi.h {}) ?_
 refine pc0 (spec := aH4 [83, 39, 49, 150] (by decide) aPg) (hent := aJK) ?_
 iterate 3 refine v0 ?_
 refine n1 130 false (hc := aDi.h {}) ?_
 refine s1 (hc := aDi.h {}) ?_
 refine v0 ?_
 apply aC
 refine cl [2, 4] ?_
 repeat apply aA
 apply aB
 refine pc0 (spec := aH1 _ (by decide) aPh) (hent := aL3) ?_
 iterate 3 refine v0 ?_
 refine n1 150 false (hc := aDi.h {}) ?_
 refine s1 (hc := aDi.h {}) ?_
 refine v0 ?_
 apply aC
 refine cl [2, 4, 6] ?_
 repeat apply aA
 apply aB
 refine v0 ?_
 refine pcw (spec := aLt) (hent := aOY) ?_
 refine rb 22 true (h := by (first | rfl | (simp; done) | decide)) ?_
 iterate 2 refine v0 ?_
 refine nw 350 false (hc := aDi.h {}) ?_
 refine pcw (spec := aKg [83, 39] (by decide)) (hent := aOZ) ?_
 refine w0 ?_
 refine rb 27 true (h := by (decide)) ?_
 iterate 2 refine v0 ?_
 iterate 2 refine w0 ?_
 refine rb 31 true (h := by (first | rfl | (simp; done) | decide)) ?_
 iterate 2 refine v0 ?_
 iterate 2 refine w0 ?_
 refine rb 35 true (h := by (first | rfl | (simp; done) | decide)) ?_
 iterate 2 refine v0 ?_
 iterate 2 refine w0 ?_
 refine rb 39 true (h := by (first | rfl | (simp; done) | decide)) ?_
 iterate 2 refine v0 ?_
 apply aC
 repeat apply aA
 refine aL ?_
 repeat (first | refine aH ?_ | refine aF ?_ | refine aD ?_)
 refine aM ?_
 refine fp ?_
 rfl
end
end Go.Proofs.YtecmhhpccmaeiaaGreatDoor
