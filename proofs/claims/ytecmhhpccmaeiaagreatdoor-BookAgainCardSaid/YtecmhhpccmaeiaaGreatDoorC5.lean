/- What functions of the program return, each for every input that its theorem names. Made small by a program of ours. -/
import Derived.Test.YtecmhhpccmaeiaaGreatDoorC4
set_option linter.unusedVariables false
set_option linter.unusedSimpArgs false
set_option maxRecDepth 100000
set_option maxHeartbeats 4000000
namespace Go.Proofs.YtecmhhpccmaeiaaGreatDoor
section
open Go.Gh
structure nK (c:Prop):Prop where
 h:c:=by (first|exact True.intro|omega|(simp only [inI];omega)|(simp [P.size];done)|kernel_rfl|omega|(simp only [inI];omega)|(simp [P.size,bU,bG,bR,bB,cS,good,G.one,P.one,P.cells]<;>first|omega|assumption|simp_all))
theorem aL5 (s:Str) (b:List UInt8):bF Tryz.prog 7 [.str s,.list (u8s b)] (.ok (.bool true)):=by
 refine bL Tryz.func7 (rfl:Tryz.f7.body=some _) rfl ?_
 intro E A C hN hL
 replace hN:C.N=217:=hN
 simp only [Gh.num,List.map_cons,List.map_nil,Nat.reduceAdd]
 have hpm:∀m:Msr,gE m = .agg [.list (m.er.map pSp),.int .i64 m.ey.1,.int .i64 m.ey.2,.int .i64 m.im,.int .i64 m.su.1,.int .i64 m.su.2,.list (m.se.map fK)]:=fun _=>rfl
 have hpp:∀m:Plt,gC m = .agg [.int .i64 m.sc.1,.int .i64 m.sc.2,.list (m.st.map eE)]:=fun _=>rfl
 have hpc:∀m:Chn,gD m = .agg [.int .i64 m.pl,.int .i64 m.ps,.list (m.kn.map pSp),.list (m.rs.map pRc),.int .i64 m.ms]:=fun _=>rfl
 have hpd:∀m:Sch,iA m = .agg [.int .i64 m.v.1,.int .i64 m.v.2,.list (m.ni.map iY),.int .i64 m.st]:=fun _=>rfl
 obtain ⟨m,e1,t1,w1,hR1,hW1,⟨hm1,hm2⟩,hq1,hf1,hh1⟩:=aL1 s
 obtain ⟨p,e2,t2,w2,hR2,hW2,hm3,hq2,hf2,hh2⟩:=aL2 s
 obtain ⟨c,e3,t3,w3,hR3,hW3,⟨hm4,hm5⟩,hq3,hf3,hh3⟩:=aL3 s
 obtain ⟨d,e4,t4,w4,hR4,hW4,⟨hm6,hm7⟩,hq4,hf4⟩:=aL4 b
 have hzc:=aOB hh1 hh2 hh3 3
 have hz3:=aPx e1 e2 e3
 repeat apply aA
 apply aB
 refine v0 ?_
 apply aC
 refine cl [0,1] ?_
 repeat apply aA
 apply aB
 iterate 4 refine v0 ?_
 refine b0 (k1:=fun hb1=>?_) (k0:=fun hb1=>?_)
 ·replace hb1:=hB.h {} hb1
  iterate 3 refine x0 ?_
  refine v0 ?_
  apply aC
  repeat apply aA
  refine cT ?_
  repeat apply aA
  apply aB
  refine pc0 (spec:=aAB) (hent:=aG1) ?_
  refine v0 ?_
  apply aC
  repeat apply aA
  refine aL ?_
  repeat (first|refine aH ?_|refine aE ?_|refine aD ?_)
  refine aM ?_
  refine fp ?_
  rfl
 replace hb1:=hB.h {} hb1
 iterate 3 refine w0 ?_
 refine v0 ?_
 apply aC
 repeat apply aA
 refine cB (k1:=fun hb2=>?_) (k0:=fun hb2=>?_)
 ·replace hb2:=hB.h {} hb2
  repeat apply aA
  apply aB
  refine pc0 (spec:=aAB) (hent:=aG1) ?_
  refine v0 ?_
  apply aC
  repeat apply aA
  refine aL ?_
  repeat (first|refine aH ?_|refine aE ?_|refine aD ?_)
  refine aM ?_
  refine fp ?_
  rfl
 replace hb2:=hB.h {} hb2
 repeat apply aA
 refine aQ ?_
 refine cl [0,1] ?_
 repeat apply aA
 apply aB
 refine v0 ?_
 refine pc0 (spec:=hR1) (hent:=aMG) ?_
 iterate 3 refine v0 ?_
 refine n1 150 false (hc:=nK.h {}) ?_
 refine s1 (hc:=nK.h {}) ?_
 refine v0 ?_
 apply aC
 refine cl [0,1,5,6] ?_
 repeat apply aA
 apply aB
 refine v0 ?_
 refine pc0 (spec:=hR2) (hent:=aMt) ?_
 iterate 3 refine v0 ?_
 refine n1 170 false (hc:=nK.h {}) ?_
 refine s1 (hc:=nK.h {}) ?_
 refine v0 ?_
 apply aC
 refine cl [0,1,5,6,7,8] ?_
 repeat apply aA
 apply aB
 refine v0 ?_
 refine pc0 (spec:=hR3) (hent:=aMz) ?_
 iterate 3 refine v0 ?_
 refine n1 190 false (hc:=nK.h {}) ?_
 refine s1 (hc:=nK.h {}) ?_
 refine v0 ?_
 apply aC
 refine cl [0,1,5,6,7,8,9,10] ?_
 repeat apply aA
 apply aB
 refine v0 ?_
 refine pc0 (spec:=hR4) (hent:=aMj) ?_
 iterate 3 refine v0 ?_
 refine n1 210 false (hc:=nK.h {}) ?_
 refine s1 (hc:=nK.h {}) ?_
 refine v0 ?_
 apply aC
 refine cl [0,1,5,6,7,8,9,10,11,12] ?_
 repeat apply aA
 apply aB
 refine v0 ?_
 apply aC
 refine cl [0,1,5,6,7,8,9,10,11,12,13] ?_
 repeat apply aA
 apply aB
 iterate 3 refine v0 ?_
 refine n1 660 false (hc:=nK.h {}) ?_
 iterate 2 refine v0 ?_
 apply aC
 refine cl [0,1,5,6,7,8,9,10,11,12,13,56,57,58] ?_
 repeat apply aA
 refine aP ?_
 repeat apply aA
 refine cJ (fun mz σ=>∃k:Nat,(k≤3)∧mz=3 - k∧σ=(sg [(0,.p (.str s)),(1,.p (.list (u8s b))),(5,.ref 150 0),(6,.p (.int .i64 e1)),(7,.ref 170 0),(8,.p (.int .i64 e2)),(9,.ref 190 0),(10,.p (.int .i64 e3)),(11,.ref 210 0),(12,.p (.int .i64 e4)),(13,.p (.int .i64 (zc e1 e2 e3 k))),(56,.own 660 3),(57,.p (.int .i64 3)),(58,.p (.int .i64 (k:Int)))] [(150,.cells [.p (.list (m.er.map pSp)),.p (.int .i64 m.ey.1),.p (.int .i64 m.ey.2),.p (.int .i64 m.im),.p (.int .i64 m.su.1),.p (.int .i64 m.su.2),.p (.list (m.se.map fK))] 0),(170,.cells [.p (.int .i64 p.sc.1),.p (.int .i64 p.sc.2),.p (.list (p.st.map eE))] 0),(190,.cells [.p (.int .i64 c.pl),.p (.int .i64 c.ps),.p (.list (c.kn.map pSp)),.p (.list (c.rs.map pRc)),.p (.int .i64 c.ms)] 0),(210,.cells [.p (.int .i64 d.v.1),.p (.int .i64 d.v.2),.p (.list (d.ni.map iY)),.p (.int .i64 d.st)] 0),(660,.arr 42 1 [.int .i64 e1,.int .i64 e2,.int .i64 e3] true)] A []:Sg E)) ?_ (fun mz σ hI=>?_)
 ·refine gA [0,1,5,6,7,8,9,10,11,12,13,56,57,58] ?_
  exact ⟨_,0,by omega,rfl,sgE (by simp [zc]) rfl⟩
 obtain ⟨k,hk,hnn,rfl⟩:=hI
 repeat apply aA
 apply aB
 refine v0 ?_
 apply aC
 repeat apply aA
 refine cB (k1:=fun hb3=>?_) (k0:=fun hb3=>?_)
 ·replace hb3:=hB.h {} hb3
  repeat apply aA
  refine aQ ?_
  refine cl [0,1,5,6,7,8,9,10,11,12,13,56,57,58] ?_
  repeat apply aA
  refine aP ?_
  repeat apply aA
  obtain rfl|rfl|rfl:k=0∨k=1∨k=2:=by omega
  ·repeat apply aA
   apply aB
   refine v1 (hc:=nK.h {}) ?_
   iterate 2 refine v0 ?_
   apply aC
   refine cl [0,1,5,6,7,8,9,10,11,12,13,15,56,57,58] ?_
   repeat apply aA
   have hqs:=hq1;unfold Q3 at hqs;rcases hqs with hq|hq|hq
   ·obtain ⟨k,hk0⟩:∃k:Nat,k=0:=⟨0,rfl⟩
    have hzz:=hz3 0
    have hzk:zc e1 e2 e3 (0+1)=zc e1 e2 e3 0:=by
     unfold zc
     simp only [Nat.reduceAdd,Nat.reduceLeDiff,true_and,false_and,if_false,Int.add_zero,Int.zero_add]
     (repeat' split)<;>omega
    repeat apply aA
    apply aB
    iterate 6 refine v0 ?_
    refine rb 67 false (h:=by (exact kq hq1)) ?_
    refine v0 ?_
    iterate 2 refine w0 ?_
    refine rb 70 true (h:=by (first|exact decide_eq_true (by omega)|exact decide_eq_false (by omega)|rfl|(simp;omega)|(simp;done))) ?_
    iterate 3 refine w0 ?_
    refine rb 73 false (h:=by (first|exact decide_eq_true (by omega)|exact decide_eq_false (by omega)|rfl|(simp;omega)|(simp;done))) ?_
    iterate 2 refine w0 ?_
    iterate 2 refine x0 ?_
    refine w0 ?_
    refine v0 ?_
    apply aC
    repeat apply aA
    refine cF ?_
    repeat apply aA
    refine aQ ?_
    refine cl [0,1,5,6,7,8,9,10,11,12,13,15,56,57,58] ?_
    repeat apply aA
    apply aB
    iterate 2 refine v0 ?_
    refine rb 81 false (h:=by (first|exact decide_eq_true (by omega)|exact decide_eq_false (by omega)|rfl|(simp;omega)|(simp;done))) ?_
    apply aC
    repeat apply aA
    refine cF ?_
    repeat apply aA
    refine aQ ?_
    refine cl [0,1,5,6,7,8,9,10,11,12,13,56,57,58] ?_
    repeat apply aA
    apply aB
    refine v1 (hc:=nK.h {}) ?_
    refine v0 ?_
    apply aC
    refine dN [0,1,5,6,7,8,9,10,11,12,13,56,57,58] (h:=?_) (hV:=?_) (n':=3 - (k+1))
    ·omega
    exact ⟨k+1,by omega,by omega,sgE (by subst hk0;first|(rw [hzk];done)|(rw [hzk];simp;done)|(simp [hzk];done)) rfl⟩
   ·obtain ⟨k,hk0⟩:∃k:Nat,k=0:=⟨0,rfl⟩
    have hzz:=hz3 0
    have hzk:zc e1 e2 e3 (0+1)=zc e1 e2 e3 0:=by
     unfold zc
     simp only [Nat.reduceAdd,Nat.reduceLeDiff,true_and,false_and,if_false,Int.add_zero,Int.zero_add]
     (repeat' split)<;>omega
    repeat apply aA
    apply aB
    iterate 6 refine v0 ?_
    refine rb 67 false (h:=by (exact kq hq1)) ?_
    refine v0 ?_
    iterate 2 refine w0 ?_
    refine rb 70 true (h:=by (first|exact decide_eq_true (by omega)|exact decide_eq_false (by omega)|rfl|(simp;omega)|(simp;done))) ?_
    iterate 3 refine w0 ?_
    refine rb 73 true (h:=by (first|exact decide_eq_true (by omega)|exact decide_eq_false (by omega)|rfl|(simp;omega)|(simp;done))) ?_
    iterate 4 refine w0 ?_
    refine rb 77 false (h:=by (first|exact decide_eq_true (by omega)|exact decide_eq_false (by omega)|rfl|(simp;omega)|(simp;done))) ?_
    refine w0 ?_
    refine v0 ?_
    apply aC
    repeat apply aA
    refine cF ?_
    repeat apply aA
    refine aQ ?_
    refine cl [0,1,5,6,7,8,9,10,11,12,13,15,56,57,58] ?_
    repeat apply aA
    apply aB
    iterate 2 refine v0 ?_
    refine rb 81 false (h:=by (first|exact decide_eq_true (by omega)|exact decide_eq_false (by omega)|rfl|(simp;omega)|(simp;done))) ?_
    apply aC
    repeat apply aA
    refine cF ?_
    repeat apply aA
    refine aQ ?_
    refine cl [0,1,5,6,7,8,9,10,11,12,13,56,57,58] ?_
    repeat apply aA
    apply aB
    refine v1 (hc:=nK.h {}) ?_
    refine v0 ?_
    apply aC
    refine dN [0,1,5,6,7,8,9,10,11,12,13,56,57,58] (h:=?_) (hV:=?_) (n':=3 - (k+1))
    ·omega
    exact ⟨k+1,by omega,by omega,sgE (by subst hk0;first|(rw [hzk];done)|(rw [hzk];simp;done)|(simp [hzk];done)) rfl⟩
   obtain ⟨k,hk0⟩:∃k:Nat,k=0:=⟨0,rfl⟩
   have hzz:=hz3 0
   have hzk:zc e1 e2 e3 (0+1)=zc e1 e2 e3 0+1:=by
    unfold zc
    simp only [Nat.reduceAdd,Nat.reduceLeDiff,true_and,false_and,if_false,Int.add_zero,Int.zero_add]
    (repeat' split)<;>omega
   repeat apply aA
   apply aB
   iterate 6 refine v0 ?_
   refine rb 67 false (h:=by (exact kq hq1)) ?_
   refine v0 ?_
   iterate 2 refine w0 ?_
   refine rb 70 false (h:=by (first|exact decide_eq_true (by omega)|exact decide_eq_false (by omega)|rfl|(simp;omega)|(simp;done))) ?_
   refine w0 ?_
   iterate 2 refine x0 ?_
   iterate 2 refine w0 ?_
   iterate 2 refine x0 ?_
   refine w0 ?_
   refine v0 ?_
   apply aC
   repeat apply aA
   refine cF ?_
   repeat apply aA
   refine aQ ?_
   refine cl [0,1,5,6,7,8,9,10,11,12,13,15,56,57,58] ?_
   repeat apply aA
   apply aB
   iterate 2 refine v0 ?_
   refine rb 81 true (h:=by (first|exact decide_eq_true (by omega)|exact decide_eq_false (by omega)|rfl|(simp;omega)|(simp;done))) ?_
   apply aC
   repeat apply aA
   refine cT ?_
   repeat apply aA
   apply aB
   refine v0 ?_
   refine v1 (hc:=nK.h {}) ?_
   refine v0 ?_
   apply aC
   refine cl [0,1,5,6,7,8,9,10,11,12,13,56,57,58] ?_
   repeat apply aA
   apply aB
   refine v1 (hc:=nK.h {}) ?_
   refine v0 ?_
   apply aC
   refine dN [0,1,5,6,7,8,9,10,11,12,13,56,57,58] (h:=?_) (hV:=?_) (n':=3 - (k+1))
   ·omega
   exact ⟨k+1,by omega,by omega,sgE (by subst hk0;first|(rw [hzk];done)|(rw [hzk];simp;done)|(simp [hzk];done)) rfl⟩
  ·repeat apply aA
   apply aB
   refine v1 (hc:=nK.h {}) ?_
   iterate 2 refine v0 ?_
   apply aC
   refine cl [0,1,5,6,7,8,9,10,11,12,13,15,56,57,58] ?_
   repeat apply aA
   have hqs:=hq2;unfold Q3 at hqs;rcases hqs with hq|hq|hq
   ·obtain ⟨k,hk0⟩:∃k:Nat,k=1:=⟨1,rfl⟩
    have hzz:=hz3 1
    have hzk:zc e1 e2 e3 (1+1)=zc e1 e2 e3 1:=by
     unfold zc
     simp only [Nat.reduceAdd,Nat.reduceLeDiff,true_and,false_and,if_false,Int.add_zero,Int.zero_add]
     (repeat' split)<;>omega
    repeat apply aA
    apply aB
    iterate 6 refine v0 ?_
    refine rb 67 false (h:=by (exact kq hq2)) ?_
    refine v0 ?_
    iterate 2 refine w0 ?_
    refine rb 70 true (h:=by (first|exact decide_eq_true (by omega)|exact decide_eq_false (by omega)|rfl|(simp;omega)|(simp;done))) ?_
    iterate 3 refine w0 ?_
    refine rb 73 false (h:=by (first|exact decide_eq_true (by omega)|exact decide_eq_false (by omega)|rfl|(simp;omega)|(simp;done))) ?_
    iterate 2 refine w0 ?_
    iterate 2 refine x0 ?_
    refine w0 ?_
    refine v0 ?_
    apply aC
    repeat apply aA
    refine cF ?_
    repeat apply aA
    refine aQ ?_
    refine cl [0,1,5,6,7,8,9,10,11,12,13,15,56,57,58] ?_
    repeat apply aA
    apply aB
    iterate 2 refine v0 ?_
    refine rb 81 false (h:=by (first|exact decide_eq_true (by omega)|exact decide_eq_false (by omega)|rfl|(simp;omega)|(simp;done))) ?_
    apply aC
    repeat apply aA
    refine cF ?_
    repeat apply aA
    refine aQ ?_
    refine cl [0,1,5,6,7,8,9,10,11,12,13,56,57,58] ?_
    repeat apply aA
    apply aB
    refine v1 (hc:=nK.h {}) ?_
    refine v0 ?_
    apply aC
    refine dN [0,1,5,6,7,8,9,10,11,12,13,56,57,58] (h:=?_) (hV:=?_) (n':=3 - (k+1))
    ·omega
    exact ⟨k+1,by omega,by omega,sgE (by subst hk0;first|(rw [hzk];done)|(rw [hzk];simp;done)|(simp [hzk];done)) rfl⟩
   ·obtain ⟨k,hk0⟩:∃k:Nat,k=1:=⟨1,rfl⟩
    have hzz:=hz3 1
    have hzk:zc e1 e2 e3 (1+1)=zc e1 e2 e3 1:=by
     unfold zc
     simp only [Nat.reduceAdd,Nat.reduceLeDiff,true_and,false_and,if_false,Int.add_zero,Int.zero_add]
     (repeat' split)<;>omega
    repeat apply aA
    apply aB
    iterate 6 refine v0 ?_
    refine rb 67 false (h:=by (exact kq hq2)) ?_
    refine v0 ?_
    iterate 2 refine w0 ?_
    refine rb 70 true (h:=by (first|exact decide_eq_true (by omega)|exact decide_eq_false (by omega)|rfl|(simp;omega)|(simp;done))) ?_
    iterate 3 refine w0 ?_
    refine rb 73 true (h:=by (first|exact decide_eq_true (by omega)|exact decide_eq_false (by omega)|rfl|(simp;omega)|(simp;done))) ?_
    iterate 4 refine w0 ?_
    refine rb 77 false (h:=by (first|exact decide_eq_true (by omega)|exact decide_eq_false (by omega)|rfl|(simp;omega)|(simp;done))) ?_
    refine w0 ?_
    refine v0 ?_
    apply aC
    repeat apply aA
    refine cF ?_
    repeat apply aA
    refine aQ ?_
    refine cl [0,1,5,6,7,8,9,10,11,12,13,15,56,57,58] ?_
    repeat apply aA
    apply aB
    iterate 2 refine v0 ?_
    refine rb 81 false (h:=by (first|exact decide_eq_true (by omega)|exact decide_eq_false (by omega)|rfl|(simp;omega)|(simp;done))) ?_
    apply aC
    repeat apply aA
    refine cF ?_
    repeat apply aA
    refine aQ ?_
    refine cl [0,1,5,6,7,8,9,10,11,12,13,56,57,58] ?_
    repeat apply aA
    apply aB
    refine v1 (hc:=nK.h {}) ?_
    refine v0 ?_
    apply aC
    refine dN [0,1,5,6,7,8,9,10,11,12,13,56,57,58] (h:=?_) (hV:=?_) (n':=3 - (k+1))
    ·omega
    exact ⟨k+1,by omega,by omega,sgE (by subst hk0;first|(rw [hzk];done)|(rw [hzk];simp;done)|(simp [hzk];done)) rfl⟩
   obtain ⟨k,hk0⟩:∃k:Nat,k=1:=⟨1,rfl⟩
   have hzz:=hz3 1
   have hzk:zc e1 e2 e3 (1+1)=zc e1 e2 e3 1+1:=by
    unfold zc
    simp only [Nat.reduceAdd,Nat.reduceLeDiff,true_and,false_and,if_false,Int.add_zero,Int.zero_add]
    (repeat' split)<;>omega
   repeat apply aA
   apply aB
   iterate 6 refine v0 ?_
   refine rb 67 false (h:=by (exact kq hq2)) ?_
   refine v0 ?_
   iterate 2 refine w0 ?_
   refine rb 70 false (h:=by (first|exact decide_eq_true (by omega)|exact decide_eq_false (by omega)|rfl|(simp;omega)|(simp;done))) ?_
   refine w0 ?_
   iterate 2 refine x0 ?_
   iterate 2 refine w0 ?_
   iterate 2 refine x0 ?_
   refine w0 ?_
   refine v0 ?_
   apply aC
   repeat apply aA
   refine cF ?_
   repeat apply aA
   refine aQ ?_
   refine cl [0,1,5,6,7,8,9,10,11,12,13,15,56,57,58] ?_
   repeat apply aA
   apply aB
   iterate 2 refine v0 ?_
   refine rb 81 true (h:=by (first|exact decide_eq_true (by omega)|exact decide_eq_false (by omega)|rfl|(simp;omega)|(simp;done))) ?_
   apply aC
   repeat apply aA
   refine cT ?_
   repeat apply aA
   apply aB
   refine v0 ?_
   refine v1 (hc:=nK.h {}) ?_
   refine v0 ?_
   apply aC
   refine cl [0,1,5,6,7,8,9,10,11,12,13,56,57,58] ?_
   repeat apply aA
   apply aB
   refine v1 (hc:=nK.h {}) ?_
   refine v0 ?_
   apply aC
   refine dN [0,1,5,6,7,8,9,10,11,12,13,56,57,58] (h:=?_) (hV:=?_) (n':=3 - (k+1))
   ·omega
   exact ⟨k+1,by omega,by omega,sgE (by subst hk0;first|(rw [hzk];done)|(rw [hzk];simp;done)|(simp [hzk];done)) rfl⟩
  repeat apply aA
  apply aB
  refine v1 (hc:=nK.h {}) ?_
  iterate 2 refine v0 ?_
  apply aC
  refine cl [0,1,5,6,7,8,9,10,11,12,13,15,56,57,58] ?_
  repeat apply aA
  have hqs:=hq3;unfold Q3 at hqs;rcases hqs with hq|hq|hq
  ·obtain ⟨k,hk0⟩:∃k:Nat,k=2:=⟨2,rfl⟩
   have hzz:=hz3 2
   have hzk:zc e1 e2 e3 (2+1)=zc e1 e2 e3 2:=by
    unfold zc
    simp only [Nat.reduceAdd,Nat.reduceLeDiff,true_and,false_and,if_false,Int.add_zero,Int.zero_add]
    (repeat' split)<;>omega
   repeat apply aA
   apply aB
   iterate 6 refine v0 ?_
   refine rb 67 false (h:=by (exact kq hq3)) ?_
   refine v0 ?_
   iterate 2 refine w0 ?_
   refine rb 70 true (h:=by (first|exact decide_eq_true (by omega)|exact decide_eq_false (by omega)|rfl|(simp;omega)|(simp;done))) ?_
   iterate 3 refine w0 ?_
   refine rb 73 false (h:=by (first|exact decide_eq_true (by omega)|exact decide_eq_false (by omega)|rfl|(simp;omega)|(simp;done))) ?_
   iterate 2 refine w0 ?_
   iterate 2 refine x0 ?_
   refine w0 ?_
   refine v0 ?_
   apply aC
   repeat apply aA
   refine cF ?_
   repeat apply aA
   refine aQ ?_
   refine cl [0,1,5,6,7,8,9,10,11,12,13,15,56,57,58] ?_
   repeat apply aA
   apply aB
   iterate 2 refine v0 ?_
   refine rb 81 false (h:=by (first|exact decide_eq_true (by omega)|exact decide_eq_false (by omega)|rfl|(simp;omega)|(simp;done))) ?_
   apply aC
   repeat apply aA
   refine cF ?_
   repeat apply aA
   refine aQ ?_
   refine cl [0,1,5,6,7,8,9,10,11,12,13,56,57,58] ?_
   repeat apply aA
   apply aB
   refine v1 (hc:=nK.h {}) ?_
   refine v0 ?_
   apply aC
   refine dN [0,1,5,6,7,8,9,10,11,12,13,56,57,58] (h:=?_) (hV:=?_) (n':=3 - (k+1))
   ·omega
   exact ⟨k+1,by omega,by omega,sgE (by subst hk0;first|(rw [hzk];done)|(rw [hzk];simp;done)|(simp [hzk];done)) rfl⟩
  ·obtain ⟨k,hk0⟩:∃k:Nat,k=2:=⟨2,rfl⟩
   have hzz:=hz3 2
   have hzk:zc e1 e2 e3 (2+1)=zc e1 e2 e3 2:=by
    unfold zc
    simp only [Nat.reduceAdd,Nat.reduceLeDiff,true_and,false_and,if_false,Int.add_zero,Int.zero_add]
    (repeat' split)<;>omega
   repeat apply aA
   apply aB
   iterate 6 refine v0 ?_
   refine rb 67 false (h:=by (exact kq hq3)) ?_
   refine v0 ?_
   iterate 2 refine w0 ?_
   refine rb 70 true (h:=by (first|exact decide_eq_true (by omega)|exact decide_eq_false (by omega)|rfl|(simp;omega)|(simp;done))) ?_
   iterate 3 refine w0 ?_
   refine rb 73 true (h:=by (first|exact decide_eq_true (by omega)|exact decide_eq_false (by omega)|rfl|(simp;omega)|(simp;done))) ?_
   iterate 4 refine w0 ?_
   refine rb 77 false (h:=by (first|exact decide_eq_true (by omega)|exact decide_eq_false (by omega)|rfl|(simp;omega)|(simp;done))) ?_
   refine w0 ?_
   refine v0 ?_
   apply aC
   repeat apply aA
   refine cF ?_
   repeat apply aA
   refine aQ ?_
   refine cl [0,1,5,6,7,8,9,10,11,12,13,15,56,57,58] ?_
   repeat apply aA
   apply aB
   iterate 2 refine v0 ?_
   refine rb 81 false (h:=by (first|exact decide_eq_true (by omega)|exact decide_eq_false (by omega)|rfl|(simp;omega)|(simp;done))) ?_
   apply aC
   repeat apply aA
   refine cF ?_
   repeat apply aA
   refine aQ ?_
   refine cl [0,1,5,6,7,8,9,10,11,12,13,56,57,58] ?_
   repeat apply aA
   apply aB
   refine v1 (hc:=nK.h {}) ?_
   refine v0 ?_
   apply aC
   refine dN [0,1,5,6,7,8,9,10,11,12,13,56,57,58] (h:=?_) (hV:=?_) (n':=3 - (k+1))
   ·omega
   exact ⟨k+1,by omega,by omega,sgE (by subst hk0;first|(rw [hzk];done)|(rw [hzk];simp;done)|(simp [hzk];done)) rfl⟩
  obtain ⟨k,hk0⟩:∃k:Nat,k=2:=⟨2,rfl⟩
  have hzz:=hz3 2
  have hzk:zc e1 e2 e3 (2+1)=zc e1 e2 e3 2+1:=by
   unfold zc
   simp only [Nat.reduceAdd,Nat.reduceLeDiff,true_and,false_and,if_false,Int.add_zero,Int.zero_add]
   (repeat' split)<;>omega
  repeat apply aA
  apply aB
  iterate 6 refine v0 ?_
  refine rb 67 false (h:=by (exact kq hq3)) ?_
  refine v0 ?_
  iterate 2 refine w0 ?_
  refine rb 70 false (h:=by (first|exact decide_eq_true (by omega)|exact decide_eq_false (by omega)|rfl|(simp;omega)|(simp;done))) ?_
  refine w0 ?_
  iterate 2 refine x0 ?_
  iterate 2 refine w0 ?_
  iterate 2 refine x0 ?_
  refine w0 ?_
  refine v0 ?_
  apply aC
  repeat apply aA
  refine cF ?_
  repeat apply aA
  refine aQ ?_
  refine cl [0,1,5,6,7,8,9,10,11,12,13,15,56,57,58] ?_
  repeat apply aA
  apply aB
  iterate 2 refine v0 ?_
  refine rb 81 true (h:=by (first|exact decide_eq_true (by omega)|exact decide_eq_false (by omega)|rfl|(simp;omega)|(simp;done))) ?_
  apply aC
  repeat apply aA
  refine cT ?_
  repeat apply aA
  apply aB
  refine v0 ?_
  refine v1 (hc:=nK.h {}) ?_
  refine v0 ?_
  apply aC
  refine cl [0,1,5,6,7,8,9,10,11,12,13,56,57,58] ?_
  repeat apply aA
  apply aB
  refine v1 (hc:=nK.h {}) ?_
  refine v0 ?_
  apply aC
  refine dN [0,1,5,6,7,8,9,10,11,12,13,56,57,58] (h:=?_) (hV:=?_) (n':=3 - (k+1))
  ·omega
  exact ⟨k+1,by omega,by omega,sgE (by subst hk0;first|(rw [hzk];done)|(rw [hzk];simp;done)|(simp [hzk];done)) rfl⟩
 replace hb3:=hB.h {} hb3
 repeat apply aA
 refine bY ?_
 repeat (first|refine bI ?_|refine aY ?_|refine bC ?_|refine bJ rfl ?_)
 refine cl [0,1,5,6,7,8,9,10,11,12,13] ?_
 repeat apply aA
 obtain rfl:k=3:=by omega
 refine aAt (l1:=?_) (m1:=?_) ?_ ?_
 rotate_left 2
 ·have hqs:=hq4
  unfold Q4 at hqs
  rcases hqs with hq|hq|hq|hq
  ·apply aB
   iterate 2 refine v0 ?_
   refine rb 86 false (h:=by (first|exact decide_eq_true (by omega)|exact decide_eq_false (by omega)|rfl|(simp;omega)|(simp;done))) ?_
   refine v0 ?_
   iterate 6 refine w0 ?_
   refine rb 93 false (h:=by (exact kq4 (by rw [bV];exact hq4))) ?_
   iterate 2 refine v0 ?_
   iterate 2 refine w0 ?_
   refine rb 97 true (h:=by (first|exact decide_eq_true (by omega)|exact decide_eq_false (by omega)|rfl|(simp;omega)|(simp;done))) ?_
   iterate 3 refine w0 ?_
   refine rb 100 false (h:=by (first|exact decide_eq_true (by omega)|exact decide_eq_false (by omega)|rfl|(simp;omega)|(simp;done))) ?_
   iterate 2 refine w0 ?_
   iterate 2 refine x0 ?_
   iterate 2 refine w0 ?_
   iterate 2 refine x0 ?_
   refine w0 ?_
   refine v0 ?_
   apply aC
   refine aB0 [0,1,5,6,7,8,9,10,11,12,110]
  ·apply aB
   iterate 2 refine v0 ?_
   refine rb 86 false (h:=by (first|exact decide_eq_true (by omega)|exact decide_eq_false (by omega)|rfl|(simp;omega)|(simp;done))) ?_
   refine v0 ?_
   iterate 6 refine w0 ?_
   refine rb 93 false (h:=by (exact kq4 (by rw [bV];exact hq4))) ?_
   iterate 2 refine v0 ?_
   iterate 2 refine w0 ?_
   refine rb 97 true (h:=by (first|exact decide_eq_true (by omega)|exact decide_eq_false (by omega)|rfl|(simp;omega)|(simp;done))) ?_
   iterate 3 refine w0 ?_
   refine rb 100 true (h:=by (first|exact decide_eq_true (by omega)|exact decide_eq_false (by omega)|rfl|(simp;omega)|(simp;done))) ?_
   iterate 4 refine w0 ?_
   refine rb 104 false (h:=by (first|exact decide_eq_true (by omega)|exact decide_eq_false (by omega)|rfl|(simp;omega)|(simp;done))) ?_
   iterate 2 refine w0 ?_
   iterate 2 refine x0 ?_
   refine w0 ?_
   refine v0 ?_
   apply aC
   refine aB0 [0,1,5,6,7,8,9,10,11,12,110]
  ·apply aB
   iterate 2 refine v0 ?_
   refine rb 86 false (h:=by (first|exact decide_eq_true (by omega)|exact decide_eq_false (by omega)|rfl|(simp;omega)|(simp;done))) ?_
   refine v0 ?_
   iterate 6 refine w0 ?_
   refine rb 93 false (h:=by (exact kq4 (by rw [bV];exact hq4))) ?_
   iterate 2 refine v0 ?_
   iterate 2 refine w0 ?_
   refine rb 97 true (h:=by (first|exact decide_eq_true (by omega)|exact decide_eq_false (by omega)|rfl|(simp;omega)|(simp;done))) ?_
   iterate 3 refine w0 ?_
   refine rb 100 true (h:=by (first|exact decide_eq_true (by omega)|exact decide_eq_false (by omega)|rfl|(simp;omega)|(simp;done))) ?_
   iterate 4 refine w0 ?_
   refine rb 104 true (h:=by (first|exact decide_eq_true (by omega)|exact decide_eq_false (by omega)|rfl|(simp;omega)|(simp;done))) ?_
   iterate 4 refine w0 ?_
   refine rb 108 false (h:=by (first|exact decide_eq_true (by omega)|exact decide_eq_false (by omega)|rfl|(simp;omega)|(simp;done))) ?_
   refine w0 ?_
   refine v0 ?_
   apply aC
   refine aB0 [0,1,5,6,7,8,9,10,11,12,110]
  apply aB
  iterate 2 refine v0 ?_
  refine rb 86 false (h:=by (first|exact decide_eq_true (by omega)|exact decide_eq_false (by omega)|rfl|(simp;omega)|(simp;done))) ?_
  refine v0 ?_
  iterate 6 refine w0 ?_
  refine rb 93 false (h:=by (exact kq4 (by rw [bV];exact hq4))) ?_
  iterate 2 refine v0 ?_
  iterate 2 refine w0 ?_
  refine rb 97 false (h:=by (first|exact decide_eq_true (by omega)|exact decide_eq_false (by omega)|rfl|(simp;omega)|(simp;done))) ?_
  refine w0 ?_
  iterate 2 refine x0 ?_
  iterate 2 refine w0 ?_
  iterate 2 refine x0 ?_
  iterate 2 refine w0 ?_
  iterate 2 refine x0 ?_
  refine w0 ?_
  refine v0 ?_
  apply aC
  refine aB0 [0,1,5,6,7,8,9,10,11,12,110]
 repeat apply aA
 refine cF ?_
 repeat apply aA
 refine aQ ?_
 refine cl [0,1,5,6,7,8,9,10,11,12] ?_
 repeat apply aA
 apply aB
 refine v0 ?_
 refine pc0 (spec:=hW1) (hent:=aMo) ?_
 iterate 5 refine v0 ?_
 apply aC
 refine cl [0,1,5,6,7,8,9,10,11,12,16,17] ?_
 repeat apply aA
 refine aAt (l1:=?_) (m1:=?_) ?_ ?_
 rotate_left 2
 ·rcases hf1 with ⟨ha,hb,hc,hd,ht⟩|⟨ha,hd⟩
  ·apply aB
   iterate 2 refine v0 ?_
   refine rb 117 true (h:=by (first|exact decide_eq_true (by omega)|exact decide_eq_false (by omega)|rfl|(simp;omega)|(simp;done))) ?_
   refine v0 ?_
   iterate 2 refine w0 ?_
   refine rb 120 false (h:=by (first|exact decide_eq_true (by omega)|exact decide_eq_false (by omega)|rfl|(simp;omega)|(simp;done))) ?_
   iterate 4 refine w0 ?_
   refine rb 124 false (h:=by (first|(simp only [Bool.not_eq_false',decide_eq_true_eq,bne_eq_false_iff_eq];exact Classical.not_not.1 ht)|(simp;exact Classical.not_not.1 ht)|exact decide_eq_false ht|(simp only [decide_not,Bool.not_eq_false'];exact decide_eq_true (Classical.not_not.1 ht))|exact decide_eq_true (Classical.not_not.1 ht))) ?_
   refine w0 ?_
   iterate 2 refine v0 ?_
   iterate 2 refine w0 ?_
   refine rb 129 false (h:=by (first|exact decide_eq_true (by omega)|exact decide_eq_false (by omega)|rfl|(simp;omega)|(simp;done))) ?_
   refine w0 ?_
   iterate 4 refine x0 ?_
   refine w0 ?_
   refine v0 ?_
   apply aC
   refine aB0 [0,1,7,8,9,10,11,12,136]
  apply aB
  iterate 2 refine v0 ?_
  refine rb 117 false (h:=by (first|exact decide_eq_true (by omega)|exact decide_eq_false (by omega)|rfl|(simp;omega)|(simp;done))) ?_
  refine v0 ?_
  iterate 3 refine x0 ?_
  iterate 3 refine x1 ?_
  refine x0 ?_
  iterate 2 refine v0 ?_
  iterate 2 refine w0 ?_
  refine rb 129 true (h:=by (first|exact decide_eq_true (by omega)|exact decide_eq_false (by omega)|rfl|(simp;omega)|(simp;done))) ?_
  iterate 3 refine w0 ?_
  refine pcw (spec:=aGW m Msr.z hm1 (by decide) hm2 (by decide)) (hent:=aMH) ?_
  refine rb 133 true (h:=by (exact hd)) ?_
  iterate 2 refine w0 ?_
  refine v0 ?_
  apply aC
  refine aB0 [0,1,7,8,9,10,11,12,136]
 repeat apply aA
 refine cF ?_
 repeat apply aA
 refine aQ ?_
 refine cl [0,1,7,8,9,10,11,12] ?_
 repeat apply aA
 apply aB
 refine v0 ?_
 refine pc0 (spec:=hW2) (hent:=aMm) ?_
 iterate 5 refine v0 ?_
 apply aC
 refine cl [0,1,7,8,9,10,11,12,18,19] ?_
 repeat apply aA
 refine aAt (l1:=?_) (m1:=?_) ?_ ?_
 rotate_left 2
 ·rcases hf2 with ⟨ha,hb,hc,hd,ht⟩|⟨ha,hd⟩
  ·apply aB
   iterate 2 refine v0 ?_
   refine rb 143 true (h:=by (first|exact decide_eq_true (by omega)|exact decide_eq_false (by omega)|rfl|(simp;omega)|(simp;done))) ?_
   refine v0 ?_
   iterate 2 refine w0 ?_
   refine rb 146 false (h:=by (first|exact decide_eq_true (by omega)|exact decide_eq_false (by omega)|rfl|(simp;omega)|(simp;done))) ?_
   iterate 4 refine w0 ?_
   refine rb 150 false (h:=by (first|(simp only [Bool.not_eq_false',decide_eq_true_eq,bne_eq_false_iff_eq];exact Classical.not_not.1 ht)|(simp;exact Classical.not_not.1 ht)|exact decide_eq_false ht|(simp only [decide_not,Bool.not_eq_false'];exact decide_eq_true (Classical.not_not.1 ht))|exact decide_eq_true (Classical.not_not.1 ht))) ?_
   refine w0 ?_
   iterate 2 refine v0 ?_
   iterate 2 refine w0 ?_
   refine rb 155 false (h:=by (first|exact decide_eq_true (by omega)|exact decide_eq_false (by omega)|rfl|(simp;omega)|(simp;done))) ?_
   refine w0 ?_
   iterate 4 refine x0 ?_
   refine w0 ?_
   refine v0 ?_
   apply aC
   refine aB0 [0,1,9,10,11,12,162]
  apply aB
  iterate 2 refine v0 ?_
  refine rb 143 false (h:=by (first|exact decide_eq_true (by omega)|exact decide_eq_false (by omega)|rfl|(simp;omega)|(simp;done))) ?_
  refine v0 ?_
  iterate 3 refine x0 ?_
  iterate 3 refine x1 ?_
  refine x0 ?_
  iterate 2 refine v0 ?_
  iterate 2 refine w0 ?_
  refine rb 155 true (h:=by (first|exact decide_eq_true (by omega)|exact decide_eq_false (by omega)|rfl|(simp;omega)|(simp;done))) ?_
  iterate 3 refine w0 ?_
  refine pcw (spec:=aGX p Plt.z hm3 (by decide)) (hent:=aMI) ?_
  refine rb 159 true (h:=by (exact hd)) ?_
  iterate 2 refine w0 ?_
  refine v0 ?_
  apply aC
  refine aB0 [0,1,9,10,11,12,162]
 repeat apply aA
 refine cF ?_
 repeat apply aA
 refine aQ ?_
 refine cl [0,1,9,10,11,12] ?_
 repeat apply aA
 apply aB
 refine v0 ?_
 refine pc0 (spec:=hW3) (hent:=aMn) ?_
 iterate 5 refine v0 ?_
 apply aC
 refine cl [0,1,9,10,11,12,20,21] ?_
 repeat apply aA
 refine aAt (l1:=?_) (m1:=?_) ?_ ?_
 rotate_left 2
 ·rcases hf3 with ⟨ha,hb,hc,hd,ht⟩|⟨ha,hd⟩
  ·apply aB
   iterate 2 refine v0 ?_
   refine rb 169 true (h:=by (first|exact decide_eq_true (by omega)|exact decide_eq_false (by omega)|rfl|(simp;omega)|(simp;done))) ?_
   refine v0 ?_
   iterate 2 refine w0 ?_
   refine rb 172 false (h:=by (first|exact decide_eq_true (by omega)|exact decide_eq_false (by omega)|rfl|(simp;omega)|(simp;done))) ?_
   iterate 4 refine w0 ?_
   refine rb 176 false (h:=by (first|(simp only [Bool.not_eq_false',decide_eq_true_eq,bne_eq_false_iff_eq];exact Classical.not_not.1 ht)|(simp;exact Classical.not_not.1 ht)|exact decide_eq_false ht|(simp only [decide_not,Bool.not_eq_false'];exact decide_eq_true (Classical.not_not.1 ht))|exact decide_eq_true (Classical.not_not.1 ht))) ?_
   refine w0 ?_
   iterate 2 refine v0 ?_
   iterate 2 refine w0 ?_
   refine rb 181 false (h:=by (first|exact decide_eq_true (by omega)|exact decide_eq_false (by omega)|rfl|(simp;omega)|(simp;done))) ?_
   refine w0 ?_
   iterate 4 refine x0 ?_
   refine w0 ?_
   refine v0 ?_
   apply aC
   refine aB0 [1,11,12,188]
  apply aB
  iterate 2 refine v0 ?_
  refine rb 169 false (h:=by (first|exact decide_eq_true (by omega)|exact decide_eq_false (by omega)|rfl|(simp;omega)|(simp;done))) ?_
  refine v0 ?_
  iterate 3 refine x0 ?_
  iterate 3 refine x1 ?_
  refine x0 ?_
  iterate 2 refine v0 ?_
  iterate 2 refine w0 ?_
  refine rb 181 true (h:=by (first|exact decide_eq_true (by omega)|exact decide_eq_false (by omega)|rfl|(simp;omega)|(simp;done))) ?_
  iterate 3 refine w0 ?_
  refine pcw (spec:=aGY c Chn.z hm4 (by decide) hm5 (by decide)) (hent:=aMJ) ?_
  refine rb 185 true (h:=by (exact hd)) ?_
  iterate 2 refine w0 ?_
  refine v0 ?_
  apply aC
  refine aB0 [1,11,12,188]
 repeat apply aA
 refine cF ?_
 repeat apply aA
 refine aQ ?_
 refine cl [1,11,12] ?_
 repeat apply aA
 apply aB
 refine v0 ?_
 refine pc0 (spec:=hW4) (hent:=aBA) ?_
 iterate 5 refine v0 ?_
 apply aC
 refine cl [1,11,12,22,23] ?_
 repeat apply aA
 rcases hf4 with ⟨ha,hb,hc,hd,ht⟩|⟨ha,hd⟩
 ·repeat apply aA
  apply aB
  iterate 2 refine v0 ?_
  refine rb 195 false (h:=by (first|exact decide_eq_true (by omega)|exact decide_eq_false (by omega)|rfl|(simp;omega)|(simp;done))) ?_
  refine v0 ?_
  iterate 2 refine w0 ?_
  refine rb 198 true (h:=by (first|exact decide_eq_true (by omega)|exact decide_eq_false (by omega)|rfl|(simp;omega)|(simp;done))) ?_
  iterate 3 refine w0 ?_
  refine pcw (spec:=aG0 t4 b) (hent:=aML) ?_
  refine rb 202 true (h:=by (first|(simp only [Bool.not_eq_false',decide_eq_true_eq,bne_eq_false_iff_eq];exact Classical.not_not.1 ht)|(simp;exact Classical.not_not.1 ht)|exact decide_eq_false ht|(simp only [decide_not,Bool.not_eq_false'];exact decide_eq_true (Classical.not_not.1 ht))|exact decide_eq_true (Classical.not_not.1 ht))) ?_
  refine w0 ?_
  iterate 2 refine v0 ?_
  iterate 2 refine w0 ?_
  refine rb 207 true (h:=by (first|exact decide_eq_true (by omega)|exact decide_eq_false (by omega)|rfl|(simp;omega)|(simp;done))) ?_
  refine w0 ?_
  iterate 3 refine x0 ?_
  refine w0 ?_
  iterate 2 refine v0 ?_
  refine pcw (spec:=aAB) (hent:=aG1) ?_
  iterate 2 refine v0 ?_
  apply aC
  repeat apply aA
  refine aL ?_
  repeat (first|refine aH ?_|refine aE ?_|refine aD ?_)
  refine aM ?_
  refine fp ?_
  rfl
 repeat apply aA
 apply aB
 iterate 2 refine v0 ?_
 refine rb 195 true (h:=by (first|exact decide_eq_true (by omega)|exact decide_eq_false (by omega)|rfl|(simp;omega)|(simp;done))) ?_
 refine v0 ?_
 iterate 3 refine x0 ?_
 iterate 3 refine x1 ?_
 refine x0 ?_
 iterate 2 refine v0 ?_
 iterate 2 refine w0 ?_
 refine rb 207 false (h:=by (first|exact decide_eq_true (by omega)|exact decide_eq_false (by omega)|rfl|(simp;omega)|(simp;done))) ?_
 iterate 3 refine w0 ?_
 refine pcw (spec:=aGZ d Sch.z hm6 (by decide) hm7 (fun n hn=>by simp [Sch.z] at hn)) (hent:=aMK) ?_
 refine rb 211 true (h:=by (exact hd)) ?_
 refine w0 ?_
 iterate 2 refine v0 ?_
 refine pcw (spec:=aAB) (hent:=aG1) ?_
 iterate 2 refine v0 ?_
 apply aC
 repeat apply aA
 refine aL ?_
 repeat (first|refine aH ?_|refine aE ?_|refine aD ?_)
 refine aM ?_
 refine fp ?_
 rfl
end
end Go.Proofs.YtecmhhpccmaeiaaGreatDoor
