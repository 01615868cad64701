/- What functions of the program return, each for every input that its theorem names. Made small by a program of ours. -/
import Derived.Test.YtecmhhpccmaeiaaGreatDoorC1
set_option linter.unusedVariables false
set_option linter.unusedSimpArgs false
set_option maxRecDepth 100000
set_option maxHeartbeats 4000000
namespace Go.Proofs.YtecmhhpccmaeiaaGreatDoor
section
open Go.Gh
variable {E:Env Tryz.prog} {A:E.α}
structure aBs (c:Prop):Prop where
 h:c:=by (first|exact True.intro|omega|(simp only [inI];omega)|(have:=eQ;simp [P.size,bV]<;>first|omega|exact this _|exact ⟨this _,by omega⟩|grind))
def zz (n:Int):Nat:=if 0≤n then (2*n).toNat else (-2*n - 1).toNat
def qO (u:Nat):List UInt8:=if h:u<128 then [lF u] else lF ((u%128:Nat)+128)::qO (u / 128)
termination_by u
decreasing_by omega
theorem aBt {u:Nat} (h:u<128):qO u=[lF u]:=by rw [qO,dif_pos h]
theorem aFS {u:Nat} (h:¬u<128):qO u=lF ((u%128:Nat)+128)::qO (u / 128):=by rw [qO,dif_neg h]
theorem aEG (x:Nat) (h:x<18446744073709551616):x ^^^ 18446744073709551615=18446744073709551615 - x:=by
 have:BitVec.ofNat 64 x ^^^ BitVec.allOnes 64 = ~~~ BitVec.ofNat 64 x:=BitVec.xor_allOnes
 have h2:=congrArg BitVec.toNat this
 rw [BitVec.toNat_xor,BitVec.toNat_not,BitVec.toNat_ofNat,BitVec.toNat_allOnes,Nat.mod_eq_of_lt h] at h2
 exact h2
theorem aGH (x y:Nat) (hx:x<18446744073709551616) (hy:y<18446744073709551616):pA .xor .u64 (x:Int) (y:Int)=((x ^^^ y:Nat):Int):=by
 have e1:(BitVec.ofInt 64 (x:Int)).toNat=x:=by rw [BitVec.toNat_ofInt];omega
 have e2:(BitVec.ofInt 64 (y:Int)).toNat=y:=by rw [BitVec.toNat_ofInt];omega
 have h:(x ^^^ y)<2^64:=Nat.xor_lt_two_pow hx hy
 show IntKind.u64.wrap ((BitVec.ofInt 64 (x:Int) ^^^ BitVec.ofInt 64 (y:Int)).toNat:Int)=_
 rw [BitVec.toNat_xor,e1,e2]
 exact IntWalk.u64_in ((x ^^^ y:Nat):Int) (by omega)
theorem aLL (n:Int) (h1 : -1000000000≤n) (h2:n≤1000000000):pA .xor .u64 (IntKind.u64.wrap (IntKind.u64.wrap n*2^min 1 IntKind.u64.bits)) (IntKind.u64.wrap (n.fdiv (2^min 63 IntKind.i64.bits)))=(zz n:Int):=by
 have e1:(2:Int)^min 1 IntKind.u64.bits=2:=by decide
 have e2:(2:Int)^min 63 IntKind.i64.bits=9223372036854775808:=by decide
 rw [e1,e2]
 by_cases h:0≤n
 ·have f:n.fdiv 9223372036854775808=0:=by rw [Int.fdiv_eq_ediv_of_nonneg _ (by omega)];omega
  have a:IntKind.u64.wrap (IntKind.u64.wrap n*2)=((2*n).toNat:Int):=by rw [IntKind.wrap_u64,IntKind.wrap_u64];omega
  have b:IntKind.u64.wrap (0:Int)=((0:Nat):Int):=by rw [IntKind.wrap_u64];rfl
  rw [f,a,b,aGH _ _ (by omega) (by omega),Nat.xor_zero]
  unfold zz
  rw [if_pos h]
 have f:n.fdiv 9223372036854775808 = -1:=by rw [Int.fdiv_eq_ediv_of_nonneg _ (by omega)];omega
 have a:IntKind.u64.wrap (IntKind.u64.wrap n*2)=((2*n+18446744073709551616).toNat:Int):=by rw [IntKind.wrap_u64,IntKind.wrap_u64];omega
 have b:IntKind.u64.wrap (-1:Int)=((18446744073709551615:Nat):Int):=by rw [IntKind.wrap_u64];omega
 rw [f,a,b,aGH _ _ (by omega) (by omega),aEG _ (by omega)]
 unfold zz
 rw [if_neg h]
 omega
theorem aGI {n:Int} (h1 : -1000000000≤n) (h2:n≤1000000000):zz n<4294967296:=by unfold zz;split<;>omega
theorem aBu:∀(k u:Nat),u<128^(k+1)→(qO u).length≤k+1
 |0,u,h=>by rw [aBt (by simpa using h)];simp
 |k+1,u,h=>by
  by_cases h1:u<128
  ·rw [aBt h1];simp
  rw [aFS h1,List.length_cons]
  have:=aBu k (u / 128) (by rw [Nat.div_lt_iff_lt_mul (by omega),←Nat.pow_succ];exact h)
  omega
theorem aBv (n:Int):fF [n]=[lF n]:=rfl
theorem aGJ:aJ Tryz.prog 69:=aJ.mk Tryz.func69 (by kernel_rfl) rfl
theorem xG (l:List UInt8) (n:Int) (h:l.length≤800000) (h1 : -1000000000≤n) (h2:n≤1000000000):Gh.bD E 69 [.ref 0 0,.p (.int .i64 n)] (aG [(0,.cells [.own 1 (l).length] 0),(1,.arr 5 1 (u8s (l)) false)]) A (fun y=>y = .ok (.p (.tuple [])) (aG [(0,.cells [.own 1 (l++qO (zz n)).length] 0),(1,.arr 5 1 (u8s (l++qO (zz n))) false)]) A):=by
 refine spX 28 Tryz.func69 rfl ?_
 intro C hN hL
 simp only [Gh.num,List.map_cons,List.map_nil,Nat.reduceAdd]
 repeat apply aA
 apply aB
 refine v0 ?_
 iterate 2 refine v1 (hc:=aBs.h {}) ?_
 refine v0 ?_
 iterate 2 refine v1 (hc:=aBs.h {}) ?_
 iterate 2 refine v0 ?_
 apply aC
 refine cl [0,4] ?_
 repeat apply aA
 refine aP ?_
 repeat apply aA
 refine cJ (fun mz σ=>∃(u:Nat) (pre:List UInt8),(u<4294967296)∧(qO (zz n)=pre++qO u)∧mz=u∧σ=(sg [(0,.ref 0 0),(4,.p (.int .u64 (u:Nat)))] [(0,.cells [.own 1 (l++pre).length] 0),(1,.arr 5 1 (u8s (l++pre)) false)] A []:Sg E)) ?_ (fun mz σ hI=>?_)
 ·refine gA [0,4] ?_
  exact ⟨_,zz n,[],aGI h1 h2,by simp,rfl,sgE (by rw [aLL n h1 h2]) (by simp)⟩
 obtain ⟨u,pre,hu,hnb,hnn,rfl⟩:=hI
 have hpl:pre.length≤10:=by have h3:=congrArg List.length hnb;have h4:=aBu 4 (zz n) (by have:=aGI h1 h2;omega);rw [List.length_append] at h3;omega
 repeat apply aA
 apply aB
 iterate 2 refine v0 ?_
 apply aC
 repeat apply aA
 refine cB (k1:=fun hb1=>?_) (k0:=fun hb1=>?_)
 ·replace hb1:=hB.h {} hb1
  repeat apply aA
  refine aQ ?_
  refine cl [0,4] ?_
  repeat apply aA
  refine aP ?_
  repeat apply aA
  apply aB
  iterate 2 refine v0 ?_
  refine v1 (hc:=aBs.h {}) ?_
  rw [show (u:Int).tmod 128=((u%128:Nat):Int) by rw [Int.tmod_eq_emod_of_nonneg (by omega)];omega]
  iterate 2 refine v1 (hc:=aBs.h {}) ?_
  refine n1 310 false (hc:=aBs.h {}) ?_
  refine oc0 [(0,0),(1,1)] [310] [0,1] none (spec:=rL (l++pre) [((u%128:Nat):Int)+128] (by rw [List.length_append];omega) (by simp)) (hent:=aBr) ?_
  apply aC
  refine cl [0,4] ?_
  repeat apply aA
  apply aB
  refine v0 ?_
  refine v1 (hc:=aBs.h {}) ?_
  refine v0 ?_
  apply aC
  refine dN [0,4] (h:=?_) (hV:=?_) (n':=u / 128)
  ·omega
  refine ⟨u / 128,pre++[lF ((u%128:Nat)+128)],by omega,by rw [hnb,aFS (by omega),List.append_assoc];rfl,rfl,sgE ?_ (by rw [aBv,List.append_assoc])⟩
  rw [Int.tdiv_eq_ediv_of_nonneg (by omega),wrap_u64 _ (by omega) (by omega)]
  rfl
 replace hb1:=hB.h {} hb1
 repeat apply aA
 refine bY ?_
 repeat (first|refine bI ?_|refine aY ?_|refine bC ?_|refine bJ rfl ?_)
 refine cl [0,4] ?_
 repeat apply aA
 apply aB
 iterate 2 refine v0 ?_
 refine v1 (hc:=aBs.h {}) ?_
 refine n1 360 false (hc:=aBs.h {}) ?_
 refine oc0 [(0,0),(1,1)] [360] [0,1] none (spec:=rL (l++pre) [(u:Int)] (by rw [List.length_append];omega) (by simp)) (hent:=aBr) ?_
 apply aC
 try refine bP ?_
 refine cW ?_
 refine fh0 [0,1] ?_
 rw [hnb,aBt (by omega),aBv,List.append_assoc]
end
section
open Go.Gh
variable {E:Env Tryz.prog} {A:E.α}
structure aBw (c:Prop):Prop where
 h:c:=by (first|exact True.intro|omega|(simp only [inI];omega)|(have:=eQ;simp [P.size,bV]<;>first|omega|exact this _|exact ⟨this _,by omega⟩|grind))
def pL (s:Int×Int):List UInt8:=qO (zz s.1)++qO (zz (s.2 - s.1))
def okN (n:Int):Prop:=-500000000≤n∧n≤500000000
def chk:List UInt8→Nat
 |l=>l.foldl (fun n b=>(n*37+b.toNat)%65519) 7
theorem aJ3 {l:List UInt8} {k:Nat} {b:UInt8} (h:l[k]? = some b):chk (l.take (k+1))=(chk (l.take k)*37+b.toNat)%65519:=by
 have:l.take (k+1)=l.take k++[b]:=by rw [List.take_add_one,h];rfl
 rw [this];simp [chk]
theorem aJ4 (l:List UInt8) (k:Nat):chk (l.take k)<65519:=by
 have:∀(l:List UInt8) (n:Nat),n<65519→l.foldl (fun n (b:UInt8)=>(n*37+b.toNat)%65519) n<65519:=fun l=>by
  induction l with
  |nil=>intro n h;exact h
  |cons b l ih=>intro n h;exact ih _ (Nat.mod_lt _ (by omega))
 exact this _ 7 (by omega)
theorem rM {n:Int} (h : -1000000000≤n∧n≤1000000000):(qO (zz n)).length≤5:=aBu 4 (zz n) (by have:=aGI h.1 h.2;omega)
theorem aFT {l:List UInt8} {k:Nat} {b:UInt8} (h:l[k]? = some b):(u8s l)[k]? = some (.int .u8 b.toNat):=by unfold u8s;rw [List.getElem?_map,h];rfl
theorem aCD:aJ Tryz.prog 67:=aJ.mk Tryz.func67 (by kernel_rfl) rfl
theorem uK (l:List UInt8) (s:Int×Int) (h:l.length≤700000) (h1:okN s.1) (h2:okN s.2):Gh.bD E 67 [.ref 0 0,.p (pSp s)] (aG [(0,.cells [.own 1 (l).length] 0),(1,.arr 5 1 (u8s (l)) false)]) A (fun y=>y = .ok (.p (.tuple [])) (aG [(0,.cells [.own 1 (l++pL s).length] 0),(1,.arr 5 1 (u8s (l++pL s)) false)]) A):=by
 refine spX 15 Tryz.func67 rfl ?_
 intro C hN hL
 simp only [Gh.num,List.map_cons,List.map_nil,Nat.reduceAdd]
 unfold pSp
 obtain ⟨h11,h12⟩:=h1
 obtain ⟨h21,h22⟩:=h2
 have hz:=rM (n:=s.1) ⟨by omega,by omega⟩
 repeat apply aA
 apply aB
 refine n1 130 false (hc:=aBw.h {}) ?_
 apply aC
 refine cl [0,3] ?_
 repeat apply aA
 apply aB
 iterate 3 refine v0 ?_
 refine oc0 [(0,0),(1,1)] [] [0,0] none (spec:=xG l s.1 (by omega) (by omega) (by omega)) (hent:=aGJ) ?_
 apply aC
 refine cl [0,3] ?_
 repeat apply aA
 apply aB
 iterate 5 refine v0 ?_
 refine v1 (hc:=aBw.h {}) ?_
 refine oc0 [(0,0),(1,1)] [] [0,0] none (spec:=xG (l++qO (zz s.1)) (s.2 - s.1) (by rw [List.length_append];omega) (by omega) (by omega)) (hent:=aGJ) ?_
 apply aC
 try refine bP ?_
 refine cW ?_
 refine fh0 [0,1] ?_
 rw [List.append_assoc]
 rfl
theorem aGK:aJ Tryz.prog 70:=aJ.mk Tryz.func70 (by kernel_rfl) rfl
theorem aAx (l:List UInt8) (h:l.length≤800000):Gh.bD E 70 [.ref 0 0] (aG [(0,.cells [.own 1 (l).length] 0),(1,.arr 5 1 (u8s (l)) false)]) A (fun y=>y = .ok (.p (.tuple [])) (aG [(0,.cells [.own 1 (l++fF [((chk l / 256:Nat):Int),((chk l%256:Nat):Int)]).length] 0),(1,.arr 5 1 (u8s (l++fF [((chk l / 256:Nat):Int),((chk l%256:Nat):Int)])) false)]) A):=by
 refine spX 28 Tryz.func70 rfl ?_
 intro C hN hL
 simp only [Gh.num,List.map_cons,List.map_nil,Nat.reduceAdd]
 repeat apply aA
 apply aB
 refine v0 ?_
 apply aC
 refine cl [0,2] ?_
 repeat apply aA
 apply aB
 iterate 4 refine v0 ?_
 refine v1 (hc:=by (exact bV l)) ?_
 refine v0 ?_
 apply aC
 refine cl [0,2,8,9,10] ?_
 repeat apply aA
 refine aP ?_
 repeat apply aA
 refine cJ (fun mz σ=>∃k:Nat,(k≤l.length)∧mz=l.length - k∧σ=(sg [(0,.ref 0 0),(2,.p (.int .i64 (chk (l.take k):Nat))),(8,.own 1 l.length),(9,.p (.int .i64 (l.length:Nat))),(10,.p (.int .i64 (k:Nat)))] [(0,.cells [.own 1 (l).length] 0),(1,.arr 5 1 (u8s (l)) false)] A []:Sg E)) ?_ (fun mz σ hI=>?_)
 ·refine gA [0,2,8,9,10] ?_
  exact ⟨_,0,by omega,rfl,sgE rfl rfl⟩
 obtain ⟨k,hk,hnn,rfl⟩:=hI
 repeat apply aA
 apply aB
 refine v0 ?_
 apply aC
 repeat apply aA
 refine cB (k1:=fun hb1=>?_) (k0:=fun hb1=>?_)
 ·replace hb1:=hB.h {} hb1
  repeat apply aA
  refine aQ ?_
  refine cl [0,2,8,9,10] ?_
  repeat apply aA
  refine aP ?_
  repeat apply aA
  obtain ⟨b,hb⟩:=fT (l:=l) (k:=k) (by omega)
  have hub:(List.flatMap P.cells (u8s l))[k]? = some (.int .u8 b.toNat):=by rw [aEu];exact aFT hb
  have hul:=bV l
  have hcl:=aJ4 l k
  have hbl:=b.toNat_lt
  apply aB
  refine v1 (hc:=aBw.h {}) ?_
  iterate 2 refine v0 ?_
  apply aC
  refine cl [0,2,4,8,9,10] ?_
  repeat apply aA
  apply aB
  refine v0 ?_
  refine v1 (hc:=aBw.h {}) ?_
  refine v0 ?_
  iterate 3 refine v1 (hc:=aBw.h {}) ?_
  refine v0 ?_
  apply aC
  refine cl [0,2,8,9,10] ?_
  repeat apply aA
  apply aB
  refine v1 (hc:=aBw.h {}) ?_
  refine v0 ?_
  apply aC
  refine dN [0,2,8,9,10] (h:=?_) (hV:=?_) (n':=l.length - (k+1))
  ·omega
  refine ⟨k+1,by omega,rfl,sgE ?_ rfl⟩
  rw [aJ3 hb,Int.tmod_eq_emod_of_nonneg (by omega)]
  rfl
 replace hb1:=hB.h {} hb1
 repeat apply aA
 refine bY ?_
 repeat (first|refine bI ?_|refine aY ?_|refine bC ?_|refine bJ rfl ?_)
 refine cl [0,2] ?_
 repeat apply aA
 obtain rfl:k=l.length:=by omega
 rw [List.take_length]
 have hcl:=aJ4 l l.length
 rw [List.take_length] at hcl
 have htd:((chk l:Nat):Int).tdiv 256=((chk l / 256:Nat):Int):=by rw [Int.tdiv_eq_ediv_of_nonneg (by omega)];omega
 have htm:((chk l:Nat):Int).tmod 256=((chk l%256:Nat):Int):=by rw [Int.tmod_eq_emod_of_nonneg (by omega)];omega
 apply aB
 iterate 2 refine v0 ?_
 refine v1 (hc:=aBw.h {}) ?_
 refine v0 ?_
 refine v1 (hc:=aBw.h {}) ?_
 refine n1 360 false (hc:=aBw.h {}) ?_
 refine oc0 [(0,0),(1,1)] [360] [0,1] none (spec:=rL l [((chk l / 256:Nat):Int),((chk l%256:Nat):Int)] (by omega) (by simp)) (hent:=aBr) ?_
 apply aC
 try refine bP ?_
 refine cW ?_
 refine fh0 [0,1] ?_
 rfl
end
section
open Go.Gh
variable {E:Env Tryz.prog} {A:E.α}
structure aEH (c:Prop):Prop where
 h:c:=by (first|exact True.intro|omega|(simp only [inI];omega)|(simp [P.size,bU,bG,bR,bB,cS,good,G.one,P.one,P.cells]<;>first|omega|assumption|simp_all))
structure aO8 (c:Prop):Prop where
 h:c:=by (first|exact True.intro|omega|(simp [P.size]<;>first|omega|(intro x a b _ h;subst h;rfl)|(intro x a b d _ h;subst h;rfl)|(intro a _;rfl))|(simp [P.size];exact ⟨by omega,fun a _=>rfl⟩)|omega|(simp only [inI];omega)|(simp [P.size,bU,bG,bR,bB,cS,good,G.one,P.one,P.cells]<;>first|omega|assumption|simp_all))
structure Spt where
 e:Int×Int
 n:Int×Int
structure Ngt where
 day:Int
 sp:List Spt
structure Sch where
 v:Int×Int
 ni:List Ngt
 st:Int
def pV (s:Spt):P:=.agg [.int .i64 s.e.1,.int .i64 s.e.2,.int .i64 s.n.1,.int .i64 s.n.2]
def iY (n:Ngt):P:=.agg [.int .i64 n.day,.list (n.sp.map pV)]
def iA (s:Sch):P:=.agg [.int .i64 s.v.1,.int .i64 s.v.2,.list (s.ni.map iY),.int .i64 s.st]
def sY (s:Spt):Bool:=!spB (-268435456) 268435456 s.e || !spB (-268435456) 268435456 s.n
def aAo (before:Int) (n:Ngt):Bool:=!inB (before+1) 65536 n.day || n.sp.any sY
def goN:List Ngt→Int→Int→Option Int
 |[],many,_=>some many
 |n::ns,many,before=>if aAo before n then none else goN ns (many+n.sp.length) n.day
def Sch.valid (s:Sch):Bool:=match goN s.ni 0 (-1) with
 |none=>false
 |some many=>spB (-500) 500 s.v&&decide ((s.ni.length:Int)≤4)&&decide (many≤8)&&inB 0 8 s.st
theorem dS {s:Sch} (h:goN s.ni 0 (-1)=none):s.valid=false:=by unfold Sch.valid;rw [h]
theorem iB {s:Sch} {m:Int} (h:goN s.ni 0 (-1)=some m):s.valid=(spB (-500) 500 s.v&&decide ((s.ni.length:Int)≤4)&&decide (m≤8)&&inB 0 8 s.st):=by unfold Sch.valid;rw [h]
theorem aJ5 {l:List Ngt} {k:Nat} {x:Ngt} (h:l[k]? = some x) (many before:Int):goN (l.drop k) many before=if aAo before x then none else goN (l.drop (k+1)) (many+x.sp.length) x.day:=by
 obtain ⟨hk,e⟩:=List.getElem?_eq_some_iff.1 h
 rw [List.drop_eq_getElem_cons hk,e];rfl
theorem yW {before:Int} {n:Ngt} (h:n.day<before+1∨65536<n.day):aAo before n=true:=by
 have:inB (before+1) 65536 n.day=false:=by
  cases e:inB (before+1) 65536 n.day with
  |false=>rfl
  |true=>simp only [inB,Bool.and_eq_true,decide_eq_true_eq] at e;omega
 unfold aAo;rw [this];rfl
theorem yX {before:Int} {n:Ngt} (h:n.sp.any sY=true):aAo before n=true:=by
 unfold aAo;rw [h,Bool.or_true]
theorem gF {l ns:List Ngt} {k:Nat} {x:Ngt} {many before:Int} (h:l[k]? = some x) (hg:goN ns 0 (-1)=goN (l.drop k) many before) (hb:aAo before x=true):goN ns 0 (-1)=none:=by
 rw [hg,aJ5 h,if_pos hb]
theorem aJ6 {lo hi n:Int} (h:inB lo hi n=true):lo≤n∧n≤hi:=by simp only [inB,Bool.and_eq_true,decide_eq_true_eq] at h;exact h
theorem aN5:aJ Tryz.prog 126:=aJ.mk Tryz.func126 (by kernel_rfl) rfl
theorem aLM (s:Spt):bF Tryz.prog 126 [pV s] (.ok (.bool (sY s))):=by
 refine bL Tryz.func126 (rfl:Tryz.f126.body=some _) rfl ?_
 intro E A C hN hL
 replace hN:C.N=13:=hN
 simp only [Gh.num,List.map_cons,List.map_nil,Nat.reduceAdd]
 have hpss:∀s:Spt,pV s = .agg [.int .i64 s.e.1,.int .i64 s.e.2,.int .i64 s.n.1,.int .i64 s.n.2]:=fun _=>rfl
 repeat apply aA
 apply aB
 refine n1 110 false (hc:=aEH.h {}) ?_
 refine v0 ?_
 apply aC
 refine cl [1] ?_
 repeat apply aA
 apply aB
 iterate 2 refine v0 ?_
 refine pc0 (spec:=lC s.e.1 s.e.2 (-268435456) (268435456)) (hent:=tQ) ?_
 iterate 2 refine v0 ?_
 refine b0 (k1:=fun hb1=>?_) (k0:=fun hb1=>?_)
 ·replace hb1:=hB.h {} hb1
  iterate 4 refine x0 ?_
  iterate 2 refine v0 ?_
  apply aC
  repeat apply aA
  refine aL ?_
  repeat (first|refine aH ?_|refine aE ?_|refine aD ?_)
  refine aM ?_
  refine fp ?_
  simp only [sY,spB] at *
  simp_all [dT.at]
  all_goals first|(intros;omega)|grind
 replace hb1:=hB.h {} hb1
 iterate 2 refine w0 ?_
 refine pcw (spec:=lC s.n.1 s.n.2 (-268435456) (268435456)) (hent:=tQ) ?_
 refine w0 ?_
 iterate 2 refine v0 ?_
 apply aC
 repeat apply aA
 refine aL ?_
 repeat (first|refine aH ?_|refine aE ?_|refine aD ?_)
 refine aM ?_
 refine fp ?_
 simp only [sY,spB] at *
 simp_all [dT.at]
 all_goals first|(intros;omega)|grind
theorem aN6:aJ Tryz.prog 158:=aJ.mk Tryz.func158 (by kernel_rfl) rfl
theorem aN7 (l:List (Spt)) (hl:l.length≤1048576)  : Gh.bD E 158 [.p (.list (l.map pV)),.p (.fn (.func 126) [] [])] (aG []) A (fun y=>y = .ok (.p (.int .i64 (lE sY l 0))) (aG []) A):=by
 refine spX 19 Tryz.func158 rfl ?_
 intro C hN hL
 simp only [Gh.num,List.map_cons,List.map_nil,Nat.reduceAdd]
 have hpss:∀s:Spt,pV s = .agg [.int .i64 s.e.1,.int .i64 s.e.2,.int .i64 s.n.1,.int .i64 s.n.2]:=fun _=>rfl
 repeat apply aA
 apply aB
 refine v0 ?_
 apply aC
 refine cl [0,1] ?_
 repeat apply aA
 apply aB
 iterate 3 refine v0 ?_
 apply aC
 refine cl [0,1,7,8] ?_
 repeat apply aA
 refine aP ?_
 repeat apply aA
 refine cJ (fun mz σ=>∃k:Nat,(k≤l.length)∧(lE sY l 0=lE sY (l.drop k) k)∧mz=l.length - k∧σ=(sg [(0,.p (.list (l.map pV))),(1,.p (.fn (.func 126) [] [])),(7,.p (.int .i64 l.length)),(8,.p (.int .i64 k))] [] A []:Sg E)) ?_ (fun mz σ hI=>?_)
 ·refine gA [0,1,7,8] ?_
  exact ⟨_,0,by omega,by simp,rfl,rfl⟩
 obtain ⟨k,hk,hi,hn,rfl⟩:=hI
 repeat apply aA
 apply aB
 refine v0 ?_
 apply aC
 repeat apply aA
 refine cB (k1:=fun hb1=>?_) (k0:=fun hb1=>?_)
 ·replace hb1:=hB.h {} hb1
  repeat apply aA
  refine aQ ?_
  refine cl [0,1,7,8] ?_
  repeat apply aA
  refine aP ?_
  repeat apply aA
  apply aB
  iterate 2 refine v0 ?_
  apply aC
  refine cl [0,1,5,7,8] ?_
  repeat apply aA
  obtain ⟨x,hx⟩:=fT (l:=l) (k:=k) (by omega)
  apply aB
  iterate 3 refine v0 ?_
  refine v1 (hc:=aO8.h {}) ?_
  refine v0 ?_
  refine pc0 (spec:=aLM x) (hent:=aN5) ?_
  apply aC
  repeat apply aA
  refine cB (k1:=fun hb2=>?_) (k0:=fun hb2=>?_)
  ·replace hb2:=hB.h {} hb2
   repeat apply aA
   apply aB
   iterate 2 refine v0 ?_
   apply aC
   repeat apply aA
   refine aL ?_
   repeat (first|refine aH ?_|refine aE ?_|refine aD ?_)
   refine aM ?_
   refine fp ?_
   simp only [dT.at,cL.ok.injEq,G.p.injEq,P.int.injEq,true_and,and_true]
   first
   |(rw [hi,fC hx];simp_all;done)
   |(rw [hi,List.drop_eq_nil_of_le (by omega)];rfl)
  replace hb2:=hB.h {} hb2
  repeat apply aA
  refine aQ ?_
  refine cl [0,1,7,8] ?_
  repeat apply aA
  apply aB
  refine v1 (hc:=aO8.h {}) ?_
  refine v0 ?_
  apply aC
  refine dN [0,1,7,8] (h:=?_) (hV:=?_) (n':=l.length - (k+1))
  ·omega
  exact ⟨k+1,by omega,by rw [hi,fC hx];simp_all,rfl,rfl⟩
 replace hb1:=hB.h {} hb1
 repeat apply aA
 refine bY ?_
 repeat (first|refine bI ?_|refine aY ?_|refine bC ?_|refine bJ rfl ?_)
 refine cl [] ?_
 repeat apply aA
 apply aB
 refine v0 ?_
 apply aC
 repeat apply aA
 refine aL ?_
 repeat (first|refine aH ?_|refine aE ?_|refine aD ?_)
 refine aM ?_
 refine fp ?_
 simp only [dT.at,cL.ok.injEq,G.p.injEq,P.int.injEq,true_and,and_true]
 first
 |(rw [hi,fC hx];simp_all;done)
 |(rw [hi,List.drop_eq_nil_of_le (by omega)];rfl)
theorem aN8:aJ Tryz.prog 129:=aJ.mk Tryz.func129 (by kernel_rfl) rfl
theorem aN9 (l:List (Spt)) (hl:l.length≤1048576)  : Gh.bD E 129 [.p (.list (l.map pV)),.p (.fn (.func 126) [] [])] (aG []) A (fun y=>y = .ok (.p (.bool (l.any sY))) (aG []) A):=by
 refine spX 9 Tryz.func129 rfl ?_
 intro C hN hL
 simp only [Gh.num,List.map_cons,List.map_nil,Nat.reduceAdd]
 repeat apply aA
 apply aB
 refine v0 ?_
 apply aC
 refine cl [0,1] ?_
 repeat apply aA
 apply aB
 iterate 2 refine v0 ?_
 refine oc0 [] [] [0,0] none (spec:=aN7 l hl ) (hent:=aN6) ?_
 iterate 2 refine v0 ?_
 apply aC
 repeat apply aA
 refine aL ?_
 repeat (first|refine aH ?_|refine aE ?_|refine aD ?_)
 refine aM ?_
 refine fp ?_
 rw [←nQ sY l 0]
theorem aJ7:aJ Tryz.prog 66:=aJ.mk Tryz.func66 (by kernel_rfl) rfl
theorem aDw (s:Sch) (h1:s.ni.length≤1048576) (h2:∀n∈s.ni,n.sp.length≤1048576):Gh.bD E 66 [.p (iA s)] (aG []) A (fun y=>y = .ok (.p (.bool s.valid)) (aG []) A):=by
 refine spX 53 Tryz.func66 rfl ?_
 intro C hN hL
 simp only [Gh.num,List.map_cons,List.map_nil,Nat.reduceAdd]
 unfold iA
 have hpsn:∀s:Ngt,iY s = .agg [.int .i64 s.day,.list (s.sp.map pV)]:=fun _=>rfl
 repeat apply aA
 apply aB
 refine n1 110 false (hc:=aEH.h {}) ?_
 refine v0 ?_
 apply aC
 refine cl [1] ?_
 repeat apply aA
 apply aB
 refine v0 ?_
 apply aC
 refine cl [1,3] ?_
 repeat apply aA
 apply aB
 iterate 2 refine v0 ?_
 apply aC
 refine cl [1,3,4,5] ?_
 repeat apply aA
 apply aB
 iterate 4 refine v0 ?_
 apply aC
 refine cl [1,3,4,5,9,10,11] ?_
 repeat apply aA
 refine aP ?_
 repeat apply aA
 refine cJ (fun mz σ=>∃(k:Nat) (many before:Int),(k≤s.ni.length)∧(goN s.ni 0 (-1)=goN (s.ni.drop k) many before)∧(0≤many∧many≤k*1048576)∧(-1≤before∧before≤65536)∧mz=s.ni.length - k∧σ=(sg [(1,.ref 110 0),(3,.p (.fn (.func 126) [] [])),(4,.p (.int .i64 many)),(5,.p (.int .i64 before)),(9,.p (.list (s.ni.map iY))),(10,.p (.int .i64 (s.ni.length:Nat))),(11,.p (.int .i64 (k:Nat)))] [(110,.cells [.p (.int .i64 s.v.1),.p (.int .i64 s.v.2),.p (.list (s.ni.map iY)),.p (.int .i64 s.st)] 0)] A []:Sg E)) ?_ (fun mz σ hI=>?_)
 ·refine gA [1,3,4,5,9,10,11] ?_
  exact ⟨_,0,0,-1,by omega,rfl,by omega,by omega,rfl,rfl⟩
 obtain ⟨k,many,before,hk,hgo,hmany,hbef,hnn,rfl⟩:=hI
 repeat apply aA
 apply aB
 refine v0 ?_
 apply aC
 repeat apply aA
 refine cB (k1:=fun hb1=>?_) (k0:=fun hb1=>?_)
 ·replace hb1:=hB.h {} hb1
  repeat apply aA
  refine aQ ?_
  refine cl [1,3,4,5,9,10,11] ?_
  repeat apply aA
  refine aP ?_
  repeat apply aA
  obtain ⟨x,hx⟩:=fT (l:=s.ni) (k:=k) (by omega)
  have hxs:=h2 x (List.mem_of_getElem? hx)
  apply aB
  refine v1 (hc:=aEH.h {}) ?_
  refine v0 ?_
  refine n1 170 false (hc:=aEH.h {}) ?_
  refine s1 (hc:=aEH.h {}) ?_
  apply aC
  refine cl [1,3,4,5,7,9,10,11] ?_
  repeat apply aA
  apply aB
  iterate 3 refine v0 ?_
  refine v1 (hc:=aEH.h {}) ?_
  refine pc0 (spec:=gB _ _ _) (hent:=mZ) ?_
  iterate 2 refine v0 ?_
  refine b0 (k1:=fun hb2=>?_) (k0:=fun hb2=>?_)
  ·replace hb2:=hB.h {} hb2
   iterate 4 refine x0 ?_
   refine v0 ?_
   apply aC
   repeat apply aA
   refine cT ?_
   repeat apply aA
   apply aB
   refine v0 ?_
   apply aC
   repeat apply aA
   refine aL ?_
   repeat (first|refine aH ?_|refine aE ?_|refine aD ?_)
   refine aM ?_
   refine fp ?_
   first
   |(rw [dS (gF hx hgo (yW (by assumption)))];try rfl)
   |(rw [dS (gF hx hgo (yX (by assumption)))];try rfl)
   |(rw [List.drop_length] at hgo;rw [iB hgo];simp only [spB,inB] at *;simp_all;all_goals (intros;omega))
  replace hb2:=hB.h {} hb2
  iterate 3 refine w0 ?_
  refine ocw [] [] [0,0] none (spec:=aN9 x.sp hxs) (hent:=aN8) ?_
  refine v0 ?_
  apply aC
  repeat apply aA
  refine cB (k1:=fun hb3=>?_) (k0:=fun hb3=>?_)
  ·replace hb3:=hB.h {} hb3
   repeat apply aA
   apply aB
   refine v0 ?_
   apply aC
   repeat apply aA
   refine aL ?_
   repeat (first|refine aH ?_|refine aE ?_|refine aD ?_)
   refine aM ?_
   refine fp ?_
   first
   |(rw [dS (gF hx hgo (yW (by assumption)))];try rfl)
   |(rw [dS (gF hx hgo (yX (by assumption)))];try rfl)
   |(rw [List.drop_length] at hgo;rw [iB hgo];simp only [spB,inB] at *;simp_all;all_goals (intros;omega))
  replace hb3:=hB.h {} hb3
  repeat apply aA
  refine aQ ?_
  refine cl [1,3,4,7,9,10,11] ?_
  repeat apply aA
  refine rd ?_
  refine d0 0 ?_
  refine d0 1 ?_
  refine d0 2 ?_
  refine d0 3 ?_
  refine d1 4 (hc:=aEH.h {}) ?_
  refine d0 5 ?_
  refine d0 6 ?_
  refine d0 7 ?_
  refine d0 8 ?_
  refine dz 9 [0,0,2,6,15,0,32,31,255] ?_
  refine de 9 ?_
  refine cl [1,3,4,5,9,10,11] ?_
  repeat apply aA
  apply aB
  refine v1 (hc:=aEH.h {}) ?_
  refine v0 ?_
  apply aC
  refine dN [1,3,4,5,9,10,11] (h:=?_) (hV:=?_) (n':=s.ni.length - (k+1))
  ·omega
  have hbx:aAo before x=false:=by unfold aAo;simp_all [inB]
  have hday:inB (before+1) 65536 x.day=true:=by unfold aAo at hbx;simp_all
  have hd2:=aJ6 hday
  exact ⟨k+1,many+x.sp.length,x.day,by omega,by rw [hgo,aJ5 hx,hbx];rfl,by omega,by omega,rfl,rfl⟩
 replace hb1:=hB.h {} hb1
 repeat apply aA
 refine bY ?_
 repeat (first|refine bI ?_|refine aY ?_|refine bC ?_|refine bJ rfl ?_)
 refine cl [1,4] ?_
 repeat apply aA
 obtain rfl:k=s.ni.length:=by omega
 apply aB
 iterate 2 refine v0 ?_
 refine pc0 (spec:=lC s.v.1 s.v.2 (-500) (500)) (hent:=tQ) ?_
 refine v0 ?_
 refine b0 (k1:=fun hb4=>?_) (k0:=fun hb4=>?_)
 ·replace hb4:=hB.h {} hb4
  iterate 4 refine w0 ?_
  iterate 2 refine v0 ?_
  refine b0 (k1:=fun hb5=>?_) (k0:=fun hb5=>?_)
  ·replace hb5:=hB.h {} hb5
   iterate 2 refine w0 ?_
   iterate 2 refine v0 ?_
   refine b0 (k1:=fun hb6=>?_) (k0:=fun hb6=>?_)
   ·replace hb6:=hB.h {} hb6
    iterate 2 refine w0 ?_
    refine pcw (spec:=gB _ _ _) (hent:=mZ) ?_
    iterate 2 refine v0 ?_
    apply aC
    repeat apply aA
    refine aL ?_
    repeat (first|refine aH ?_|refine aE ?_|refine aD ?_)
    refine aM ?_
    refine fp ?_
    first
    |(rw [dS (gF hx hgo (yW (by assumption)))];try rfl)
    |(rw [dS (gF hx hgo (yX (by assumption)))];try rfl)
    |(rw [List.drop_length] at hgo;rw [iB hgo];simp only [spB,inB] at *;simp_all;all_goals (intros;omega))
   replace hb6:=hB.h {} hb6
   iterate 3 refine x0 ?_
   iterate 2 refine v0 ?_
   apply aC
   repeat apply aA
   refine aL ?_
   repeat (first|refine aH ?_|refine aE ?_|refine aD ?_)
   refine aM ?_
   refine fp ?_
   first
   |(rw [dS (gF hx hgo (yW (by assumption)))];try rfl)
   |(rw [dS (gF hx hgo (yX (by assumption)))];try rfl)
   |(rw [List.drop_length] at hgo;rw [iB hgo];simp only [spB,inB] at *;simp_all;all_goals (intros;omega))
  replace hb5:=hB.h {} hb5
  iterate 2 refine x0 ?_
  iterate 2 refine v0 ?_
  iterate 3 refine x0 ?_
  iterate 2 refine v0 ?_
  apply aC
  repeat apply aA
  refine aL ?_
  repeat (first|refine aH ?_|refine aE ?_|refine aD ?_)
  refine aM ?_
  refine fp ?_
  first
  |(rw [dS (gF hx hgo (yW (by assumption)))];try rfl)
  |(rw [dS (gF hx hgo (yX (by assumption)))];try rfl)
  |(rw [List.drop_length] at hgo;rw [iB hgo];simp only [spB,inB] at *;simp_all;all_goals (intros;omega))
 replace hb4:=hB.h {} hb4
 iterate 4 refine x0 ?_
 iterate 2 refine v0 ?_
 iterate 2 refine x0 ?_
 iterate 2 refine v0 ?_
 iterate 3 refine x0 ?_
 iterate 2 refine v0 ?_
 apply aC
 repeat apply aA
 refine aL ?_
 repeat (first|refine aH ?_|refine aE ?_|refine aD ?_)
 refine aM ?_
 refine fp ?_
 first
 |(rw [dS (gF hx hgo (yW (by assumption)))];try rfl)
 |(rw [dS (gF hx hgo (yX (by assumption)))];try rfl)
 |(rw [List.drop_length] at hgo;rw [iB hgo];simp only [spB,inB] at *;simp_all;all_goals (intros;omega))
end
section
open Go.Gh
variable {E:Env Tryz.prog} {A:E.α}
structure xH (c:Prop):Prop where
 h:c:=by (first|exact True.intro|omega|(simp [P.size]<;>first|omega|(intro x a b _ h;subst h;rfl)|(intro a _;rfl))|(simp [P.size];exact ⟨by omega,fun a _=>rfl⟩)|omega|(simp only [inI];omega)|(simp [P.size,bU,bG,bR,bB,cS,good,G.one,P.one,P.cells]<;>first|omega|assumption|simp_all))
def oZ (x:Spt):List UInt8:=pL x.e++pL x.n
def tT (n:Ngt):List UInt8:=qO (zz n.day)++fF [(n.sp.length:Int)]
def gR (n:Ngt):List UInt8:=tT n++n.sp.flatMap oZ
def iZ (s:Sch):List UInt8:=[83]++pL s.v++fF [s.st,(s.ni.length:Int)]
def vE (s:Sch):List UInt8:=iZ s++s.ni.flatMap gR
def yY (l:List UInt8):List UInt8:=l++fF [((chk l / 256:Nat):Int),((chk l%256:Nat):Int)]
def oS (s:Sch):List UInt8:=yY (vE s)
theorem uL {α:Type} {l:List α} {k:Nat} {x:α} (f:α→List UInt8) (h:l[k]? = some x):(l.take (k+1)).flatMap f=(l.take k).flatMap f++f x:=by
 have:l.take (k+1)=l.take k++[x]:=by rw [List.take_add_one,h];rfl
 rw [this];simp
theorem tU {α:Type} {f:α→List UInt8} {c:Nat}:∀ {l:List α},(∀x∈l,(f x).length≤c)→(l.flatMap f).length≤c*l.length
 |[],_=>by simp
 |x::l,h=>by
  have h1:=h x (List.mem_cons_self ..)
  have h2:=tU (l:=l) fun y hy=>h y (List.mem_cons_of_mem _ hy)
  rw [List.flatMap_cons,List.length_append,List.length_cons,Nat.mul_succ];omega
theorem gI {α:Type} {f:α→List UInt8} {c:Nat} {l:List α} (h:∀x∈l,(f x).length≤c) (k:Nat):((l.take k).flatMap f).length≤c*l.length:=by
 have h1:=tU (l:=l.take k) fun x hx=>h x (List.mem_of_mem_take hx)
 have h2:c*(l.take k).length≤c*l.length:=Nat.mul_le_mul_left _ (by rw [List.length_take];omega)
 omega
theorem aGL:∀(l:List Ngt) (many before m:Int),-1≤before→goN l many before=some m→many≤m∧∀n∈l,(0≤n.day∧n.day≤65536)∧n.sp.any sY=false∧(n.sp.length:Int)≤m - many
 |[],many,before,m,_,h=>by
  simp only [goN,Option.some.injEq] at h
  exact ⟨by omega,fun n hn=>by cases hn⟩
 |n::ns,many,before,m,hb,h=>by
  simp only [goN] at h
  split at h
  ·cases h
  rename_i hq
  have hq:aAo before n=false:=by simpa using hq
  simp only [aAo,Bool.or_eq_false_iff,Bool.not_eq_false'] at hq
  have hd:=aJ6 hq.1
  obtain ⟨h1,h2⟩:=aGL ns _ _ m (by omega) h
  refine ⟨by omega,fun x hx=>?_⟩
  rcases List.mem_cons.1 hx with rfl|hx
  ·exact ⟨by omega,hq.2,by omega⟩
  obtain ⟨a,b,c⟩:=h2 x hx
  exact ⟨a,b,by omega⟩
theorem aJ8 {lo hi:Int} {s:Int×Int} (h:spB lo hi s=true) (h1 : -300000000≤lo) (h2:hi≤300000000):okN s.1∧okN s.2:=by
 simp only [spB,Bool.and_eq_true,decide_eq_true_eq] at h
 unfold okN;omega
structure aEI (s:Sch):Prop where
 v:okN s.v.1∧okN s.v.2
 ni:s.ni.length≤4
 day:∀n∈s.ni,okN n.day
 sp:∀n∈s.ni,n.sp.length≤8
 spt:∀n∈s.ni,∀x∈n.sp,(okN x.e.1∧okN x.e.2)∧okN x.n.1∧okN x.n.2
theorem aO9 {α:Type} {l:List α} {q:α→Bool} (h:l.any q=false) {x:α} (hx:x∈l):q x=false:=jY (by rw [h];rfl) hx
theorem aBx {s:Sch} (h:s.valid=true):aEI s:=by
 cases hg:goN s.ni 0 (-1) with
 |none=>rw [dS hg] at h;cases h
 |some m=>
  rw [iB hg] at h
  simp only [Bool.and_eq_true,decide_eq_true_eq] at h
  obtain ⟨⟨⟨h1,h2⟩,h3⟩,h4⟩:=h
  obtain ⟨_,ha⟩:=aGL s.ni 0 (-1) m (by omega) hg
  refine ⟨aJ8 h1 (by omega) (by omega),by omega,fun n hn=>?_,fun n hn=>?_,fun n hn x hx=>?_⟩
  ·have:=(ha n hn).1;unfold okN;omega
  ·have:=(ha n hn).2.2;omega
  have hb:=aO9 (ha n hn).2.1 hx
  simp only [sY,Bool.or_eq_false_iff,Bool.not_eq_false'] at hb
  exact ⟨aJ8 hb.1 (by omega) (by omega),aJ8 hb.2 (by omega) (by omega)⟩
theorem gJ {s:Int×Int} (h:okN s.1∧okN s.2):(pL s).length≤10:=by
 obtain ⟨⟨a,b⟩,c,d⟩:=h
 have h1:=rM (n:=s.1) ⟨by omega,by omega⟩
 have h2:=rM (n:=s.2 - s.1) ⟨by omega,by omega⟩
 unfold pL;rw [List.length_append];omega
theorem aBy {s:Sch} (h:aEI s) {n:Ngt} (hn:n∈s.ni):∀x∈n.sp,(oZ x).length≤20:=fun x hx=>by
 obtain ⟨a,b⟩:=h.spt n hn x hx
 have h1:=gJ a
 have h2:=gJ b
 unfold oZ;rw [List.length_append];omega
theorem aBz {s:Sch} (h:aEI s) {n:Ngt} (hn:n∈s.ni):(tT n).length≤6:=by
 obtain ⟨a,b⟩:=h.day n hn
 have h1:=rM (n:=n.day) ⟨by omega,by omega⟩
 unfold tT;rw [List.length_append,oR,List.length_singleton];omega
theorem xI {s:Sch} (h:aEI s):∀n∈s.ni,(gR n).length≤166:=fun n hn=>by
 have h1:=aBz h hn
 have h2:=tU (aBy h hn)
 have h3:=h.sp n hn
 unfold gR;rw [List.length_append];omega
theorem xJ {s:Sch} (h:aEI s):(iZ s).length≤13:=by
 have h1:=gJ h.v
 unfold iZ;rw [List.length_append,List.length_append,oR,List.length_singleton,List.length_cons,List.length_singleton];omega
theorem aBA:aJ Tryz.prog 28:=aJ.mk Tryz.func28 (by kernel_rfl) rfl
theorem vY (s:Sch) (hv:s.valid=true):Gh.bD E 28 [.p (iA s)] (aG []) A (fun y=>y = .ok (.tuple [.own 220 (oS s).length,.p (.int .i64 0)]) (aG [(220,.arr 5 1 (u8s (oS s)) false)]) A):=by
 refine spX 67 Tryz.func28 rfl ?_
 intro C hN hL
 simp only [Gh.num,List.map_cons,List.map_nil,Nat.reduceAdd]
 have hok:=aBx hv
 have hl1:=hok.ni
 have hl2:=hok.sp
 have hv1:=hok.v
 have hsv:=gJ hok.v
 unfold iA
 have hpss:∀s:Spt,pV s = .agg [.int .i64 s.e.1,.int .i64 s.e.2,.int .i64 s.n.1,.int .i64 s.n.2]:=fun _=>rfl
 have hpsn:∀s:Ngt,iY s = .agg [.int .i64 s.day,.list (s.sp.map pV)]:=fun _=>rfl
 repeat apply aA
 apply aB
 refine n1 110 false (hc:=xH.h {}) ?_
 iterate 2 refine v0 ?_
 apply aC
 refine cl [1] ?_
 repeat apply aA
 apply aB
 refine v0 ?_
 refine oc0 [] [] [0] none (spec:=aDw s (by omega) (fun n hn=>by have:=hl2 n hn;omega)) (hent:=aJ7) ?_
 refine rb 10 true (h:=by (exact hv)) ?_
 refine v0 ?_
 apply aC
 repeat apply aA
 refine cF ?_
 repeat apply aA
 refine aQ ?_
 refine cl [1] ?_
 repeat apply aA
 apply aB
 refine n1 220 true (hc:=xH.h {}) ?_
 refine v0 ?_
 refine n1 240 false (hc:=xH.h {}) ?_
 refine v0 ?_
 apply aC
 refine cl [1,4] ?_
 repeat apply aA
 rw [show [P.int IntKind.u8 83]=u8s [83] from rfl]
 apply aB
 iterate 3 refine v0 ?_
 refine oc0 [(0,240),(1,220)] [] [0,0] none (spec:=uK [83] s.v (by simp) hv1.1 hv1.2) (hent:=aCD) ?_
 apply aC
 refine cl [1,4] ?_
 repeat apply aA
 apply aB
 iterate 6 refine v0 ?_
 refine n1 350 false (hc:=xH.h {}) ?_
 refine oc0 [(0,240),(1,220)] [350] [0,1] none (spec:=rL ([83]++pL s.v) [s.st,(s.ni.length:Int)] (by simp only [List.length_append,List.length_singleton];omega) (by simp)) (hent:=aBr) ?_
 apply aC
 refine cl [1,4] ?_
 repeat apply aA
 apply aB
 iterate 4 refine v0 ?_
 apply aC
 refine cl [4,28,29,30] ?_
 repeat apply aA
 refine aP ?_
 repeat apply aA
 refine cJ (fun mz σ=>∃k:Nat,(k≤s.ni.length)∧mz=s.ni.length - k∧σ=(sg [(4,.ref 240 0),(28,.p (.list (s.ni.map iY))),(29,.p (.int .i64 (s.ni.length:Nat))),(30,.p (.int .i64 (k:Nat)))] [(240,.cells [.own 220 (iZ s++(s.ni.take k).flatMap gR).length] 0),(220,.arr 5 1 (u8s (iZ s++(s.ni.take k).flatMap gR)) false)] A []:Sg E)) ?_ (fun mz σ hI=>?_)
 ·refine gA [4,28,29,30] ?_
  exact ⟨_,0,by omega,rfl,sgE rfl (by simp [iZ])⟩
 obtain ⟨k,hk,hnn,rfl⟩:=hI
 repeat apply aA
 apply aB
 refine v0 ?_
 apply aC
 repeat apply aA
 refine cB (k1:=fun hb1=>?_) (k0:=fun hb1=>?_)
 ·replace hb1:=hB.h {} hb1
  repeat apply aA
  refine aQ ?_
  refine cl [4,28,29,30] ?_
  repeat apply aA
  refine aP ?_
  repeat apply aA
  obtain ⟨x,hx⟩:=fT (l:=s.ni) (k:=k) (by omega)
  have hxm:=List.mem_of_getElem? hx
  have hx8:=hok.sp x hxm
  have hbl:(iZ s++(s.ni.take k).flatMap gR).length≤700:=by have h1:=xJ hok;have h2:=gI (xI hok) k;have h3:=hok.ni;rw [List.length_append];omega
  apply aB
  refine v1 (hc:=xH.h {}) ?_
  refine v0 ?_
  refine n1 160 false (hc:=xH.h {}) ?_
  refine s1 (hc:=xH.h {}) ?_
  apply aC
  refine cl [4,6,28,29,30] ?_
  repeat apply aA
  apply aB
  iterate 3 refine v0 ?_
  refine oc0 [(0,240),(1,220)] [] [0,0] none (spec:=xG (iZ s++(s.ni.take k).flatMap gR) x.day (by omega) (by have:=(hok.day x hxm).1;omega) (by have:=(hok.day x hxm).2;omega)) (hent:=aGJ) ?_
  apply aC
  refine cl [4,6,28,29,30] ?_
  repeat apply aA
  apply aB
  iterate 4 refine v0 ?_
  refine n1 520 false (hc:=xH.h {}) ?_
  refine oc0 [(0,240),(1,220)] [520] [0,1] none (spec:=rL (iZ s++(s.ni.take k).flatMap gR++qO (zz x.day)) [(x.sp.length:Int)] (by have:=rM (n:=x.day) (by have:=hok.day x hxm;unfold okN at this;omega);rw [List.length_append];omega) (by simp)) (hent:=aBr) ?_
  apply aC
  refine cl [4,6,28,29,30] ?_
  repeat apply aA
  apply aB
  iterate 4 refine v0 ?_
  apply aC
  refine cl [4,28,29,30,45,46,47] ?_
  repeat apply aA
  refine aP ?_
  repeat apply aA
  refine cJ (fun mz σ=>∃j:Nat,(j≤x.sp.length)∧mz=x.sp.length - j∧σ=(sg [(4,.ref 240 0),(28,.p (.list (s.ni.map iY))),(29,.p (.int .i64 (s.ni.length:Nat))),(30,.p (.int .i64 (k:Nat))),(45,.p (.list (x.sp.map pV))),(46,.p (.int .i64 (x.sp.length:Nat))),(47,.p (.int .i64 (j:Nat)))] [(240,.cells [.own 220 ((iZ s++(s.ni.take k).flatMap gR++tT x)++(x.sp.take j).flatMap oZ).length] 0),(220,.arr 5 1 (u8s ((iZ s++(s.ni.take k).flatMap gR++tT x)++(x.sp.take j).flatMap oZ)) false)] A []:Sg E)) ?_ (fun mz σ hI=>?_)
  ·refine gA [4,28,29,30,45,46,47] ?_
   exact ⟨_,0,by omega,rfl,sgE rfl (by simp [tT])⟩
  obtain ⟨j,hj,hnj,rfl⟩:=hI
  repeat apply aA
  apply aB
  refine v0 ?_
  apply aC
  repeat apply aA
  refine cB (k1:=fun hb2=>?_) (k0:=fun hb2=>?_)
  ·replace hb2:=hB.h {} hb2
   repeat apply aA
   refine aQ ?_
   refine cl [4,28,29,30,45,46,47] ?_
   repeat apply aA
   refine aP ?_
   repeat apply aA
   obtain ⟨y,hy⟩:=fT (l:=x.sp) (k:=j) (by omega)
   have hym:=List.mem_of_getElem? hy
   obtain ⟨hye,hyn⟩:=hok.spt x hxm y hym
   have hil:((iZ s++(s.ni.take k).flatMap gR++tT x)++(x.sp.take j).flatMap oZ).length≤900:=by have h1:=aBz hok hxm;have h2:=gI (aBy hok hxm) j;have h3:=hok.sp x hxm;rw [List.length_append,List.length_append];omega
   apply aB
   refine v1 (hc:=xH.h {}) ?_
   refine v0 ?_
   refine n1 180 false (hc:=xH.h {}) ?_
   refine s1 (hc:=xH.h {}) ?_
   apply aC
   refine cl [4,8,28,29,30,45,46,47] ?_
   repeat apply aA
   apply aB
   iterate 3 refine v0 ?_
   refine oc0 [(0,240),(1,220)] [] [0,0] none (spec:=uK ((iZ s++(s.ni.take k).flatMap gR++tT x)++(x.sp.take j).flatMap oZ) y.e (by omega) hye.1 hye.2) (hent:=aCD) ?_
   apply aC
   refine cl [4,8,28,29,30,45,46,47] ?_
   repeat apply aA
   apply aB
   iterate 3 refine v0 ?_
   refine oc0 [(0,240),(1,220)] [] [0,0] none (spec:=uK ((iZ s++(s.ni.take k).flatMap gR++tT x)++(x.sp.take j).flatMap oZ++pL y.e) y.n (by have:=gJ hye;rw [List.length_append];omega) hyn.1 hyn.2) (hent:=aCD) ?_
   apply aC
   refine cl [4,28,29,30,45,46,47] ?_
   repeat apply aA
   apply aB
   refine v1 (hc:=xH.h {}) ?_
   refine v0 ?_
   apply aC
   refine dN [4,28,29,30,45,46,47] (h:=?_) (hV:=?_) (n':=x.sp.length - (j+1))
   ·omega
   exact ⟨j+1,by omega,rfl,sgE rfl (by rw [uL oZ hy,oZ,List.append_assoc,List.append_assoc])⟩
  replace hb2:=hB.h {} hb2
  repeat apply aA
  refine bY ?_
  repeat (first|refine bI ?_|refine aY ?_|refine bC ?_|refine bJ rfl ?_)
  refine cl [4,28,29,30] ?_
  repeat apply aA
  obtain rfl:j=x.sp.length:=by omega
  rw [List.take_length]
  apply aB
  refine v1 (hc:=xH.h {}) ?_
  refine v0 ?_
  apply aC
  refine dN [4,28,29,30] (h:=?_) (hV:=?_) (n':=s.ni.length - (k+1))
  ·omega
  exact ⟨k+1,by omega,rfl,sgE rfl (by rw [uL gR hx,gR,List.append_assoc,List.append_assoc])⟩
 replace hb1:=hB.h {} hb1
 repeat apply aA
 refine bY ?_
 repeat (first|refine bI ?_|refine aY ?_|refine bC ?_|refine bJ rfl ?_)
 refine cl [4] ?_
 repeat apply aA
 have hbl:(iZ s++(s.ni.take k).flatMap gR).length≤700:=by have h1:=xJ hok;have h2:=gI (xI hok) k;have h3:=hok.ni;rw [List.length_append];omega
 obtain rfl:k=s.ni.length:=by omega
 rw [List.take_length] at hbl ⊢
 have hB0:iZ s++s.ni.flatMap gR=vE s:=rfl
 rw [hB0] at hbl ⊢
 apply aB
 refine v0 ?_
 refine oc0 [(0,240),(1,220)] [] [0] none (spec:=aAx (vE s) (by omega)) (hent:=aGK) ?_
 apply aC
 refine cl [4] ?_
 repeat apply aA
 apply aB
 iterate 6 refine v0 ?_
 apply aC
 repeat apply aA
 refine aL ?_
 repeat (first|refine aH ?_|refine aE ?_|refine aD ?_)
 refine aM ?_
 refine fh2 [220] ?_
 rfl
theorem vZ (s:Sch) (hv:s.valid=false) (h1:s.ni.length≤1048576) (h2:∀n∈s.ni,n.sp.length≤1048576):Gh.bD E 28 [.p (iA s)] (aG []) A (fun y=>y = .ok (.p (.tuple [.list [],.int .i64 1])) (aG []) A):=by
 refine spX 67 Tryz.func28 rfl ?_
 intro C hN hL
 simp only [Gh.num,List.map_cons,List.map_nil,Nat.reduceAdd]
 unfold iA
 have hpsn:∀s:Ngt,iY s = .agg [.int .i64 s.day,.list (s.sp.map pV)]:=fun _=>rfl
 repeat apply aA
 apply aB
 refine n1 110 false (hc:=xH.h {}) ?_
 iterate 2 refine v0 ?_
 apply aC
 refine cl [1] ?_
 repeat apply aA
 apply aB
 refine v0 ?_
 refine oc0 [] [] [0] none (spec:=aDw s h1 h2) (hent:=aJ7) ?_
 refine rb 10 false (h:=by (exact hv)) ?_
 refine v0 ?_
 apply aC
 repeat apply aA
 refine cT ?_
 repeat apply aA
 apply aB
 iterate 2 refine v0 ?_
 apply aC
 repeat apply aA
 refine aL ?_
 repeat (first|refine aH ?_|refine aE ?_|refine aD ?_)
 refine aM ?_
 refine fp2 ?_
 rfl
end
section
open Go.Gh
def oT:Nat→Nat→Nat→List UInt8→Option (Nat×List UInt8)
 |0,_,_,_=>none
 |_+1,_,_,[]=>none
 |f+1,sh,u,b::l=>if b.toNat<128 then some (u+b.toNat%128*2^sh,l) else oT f (sh+7) (u+b.toNat%128*2^sh) l
def unz (u:Nat):Int:=if u%2=0 then ((u / 2:Nat):Int) else -((u / 2:Nat):Int) - 1
def nI (l:List UInt8):Option (Int×List UInt8):=match oT 6 0 0 l with
 |none=>none
 |some z=>some (unz z.1,z.2)
def fU (l:List UInt8):Option ((Int×Int)×List UInt8):=match nI l with
 |none=>none
 |some z=>match nI z.2 with
  |none=>none
  |some y=>some ((z.1,z.1+y.1),y.2)
def oU (l:List UInt8):Option (Spt×List UInt8):=match fU l with
 |none=>none
 |some z=>match fU z.2 with
  |none=>none
  |some y=>some (⟨z.1,y.1⟩,y.2)
def iM:Nat→List UInt8→Option (List Spt×List UInt8)
 |0,l=>some ([],l)
 |k+1,l=>match oU l with
  |none=>none
  |some z=>match iM k z.2 with
   |none=>none
   |some y=>some (z.1::y.1,y.2)
def yZ (l:List UInt8):Option (Ngt×List UInt8):=match nI l with
 |none=>none
 |some z=>match z.2 with
  |[]=>none
  |b::r=>match iM b.toNat r with
   |none=>none
   |some y=>some (⟨z.1,y.1⟩,y.2)
def jZ:Nat→List UInt8→Option (List Ngt×List UInt8)
 |0,l=>some ([],l)
 |k+1,l=>match yZ l with
  |none=>none
  |some z=>match jZ k z.2 with
   |none=>none
   |some y=>some (z.1::y.1,y.2)
def eS:List UInt8→Option (Sch×List UInt8)
 |[]=>none
 |b::l=>if b=83 then (match fU l with
  |none=>none
  |some z=>match z.2 with
   |[]=>none
   |[_]=>none
   |st::n::r=>match jZ n.toNat r with
    |none=>none
    |some y=>some (⟨z.1,y.1,(st.toNat:Int)⟩,y.2)) else none
def qP (b:List UInt8):Option Sch:=match eS (b.take (b.length - 2)) with
 |none=>none
 |some z=>if z.2=[]∧z.1.valid=true∧oS z.1=b then some z.1 else none
def aHT (b:List UInt8):Prop:=b.length<2∨yY (b.take (b.length - 2))≠b
theorem qQ {n:Nat} (h:n<256):(lF (n:Int)).toNat=n:=by
 unfold lF
 rw [UInt8.toNat_ofNat']
 omega
theorem aHU {n:Int} (h0:0≤n) (h:n<256):((lF n).toNat:Int)=n:=by
 unfold lF
 rw [UInt8.toNat_ofNat']
 omega
theorem aEJ:∀(f u sh acc:Nat) (r:List UInt8),u<128^(f+1)→oT (f+1) sh acc (qO u++r)=some (acc+u*2^sh,r)
 |0,u,sh,acc,r,h=>by
  have h1:u<128:=by simpa using h
  rw [aBt h1]
  simp only [List.cons_append,List.nil_append,oT,qQ (show u<256 by omega)]
  rw [if_pos h1,Nat.mod_eq_of_lt h1]
 |f+1,u,sh,acc,r,h=>by
  by_cases h1:u<128
  ·rw [aBt h1]
   simp only [List.cons_append,List.nil_append,oT,qQ (show u<256 by omega)]
   rw [if_pos h1,Nat.mod_eq_of_lt h1]
  rw [aFS h1]
  have e:(lF ((u%128:Nat)+128)).toNat=u%128+128:=by
   have:=qQ (n:=u%128+128) (by omega)
   rw [←this];rfl
  simp only [List.cons_append]
  rw [oT,e,if_neg (by omega),aEJ f (u / 128) (sh+7) _ r (by rw [Nat.pow_succ] at h;omega)]
  have e2:(u%128+128)%128=u%128:=by omega
  have e3:u / 128*2^(sh+7)=128*(u / 128)*2^sh:=by
   rw [Nat.pow_add,show (2:Nat)^7=128 by rfl,←Nat.mul_assoc,Nat.mul_right_comm,Nat.mul_comm (u / 128) 128]
  rw [e2,e3,Nat.add_assoc,←Nat.add_mul]
  congr 4
  omega
theorem aOa (n:Int):unz (zz n)=n:=by
 unfold unz zz
 split<;>split<;>omega
theorem aBB {n:Int} (h1 : -1000000000≤n) (h2:n≤1000000000) (r:List UInt8):nI (qO (zz n)++r)=some (n,r):=by
 have:=aGI h1 h2
 unfold nI
 rw [aEJ 5 (zz n) 0 0 r (by omega)]
 simp [aOa]
theorem wA {s:Int×Int} (h:okN s.1∧okN s.2) (r:List UInt8):fU (pL s++r)=some (s,r):=by
 obtain ⟨⟨a,b⟩,c,d⟩:=h
 unfold fU pL
 rw [List.append_assoc,aBB (by omega) (by omega)]
 simp only
 rw [aBB (by omega) (by omega)]
 simp only
 rw [show s.1+(s.2 - s.1)=s.2 by omega]
theorem aFU {x:Spt} (h:(okN x.e.1∧okN x.e.2)∧okN x.n.1∧okN x.n.2) (r:List UInt8):oU (oZ x++r)=some (x,r):=by
 unfold oU oZ
 rw [List.append_assoc,wA h.1]
 simp only
 rw [wA h.2]
theorem xK:∀ {l:List Spt},(∀x∈l,(okN x.e.1∧okN x.e.2)∧okN x.n.1∧okN x.n.2)→∀r,iM l.length (l.flatMap oZ++r)=some (l,r)
 |[],_,r=>rfl
 |x::l,h,r=>by
  rw [List.length_cons,List.flatMap_cons,List.append_assoc,iM,aFU (h x (List.mem_cons_self ..))]
  simp only
  rw [xK fun y hy=>h y (List.mem_cons_of_mem _ hy)]
theorem aFV {n:Ngt} (hd:okN n.day) (hl:n.sp.length≤8) (h:∀x∈n.sp,(okN x.e.1∧okN x.e.2)∧okN x.n.1∧okN x.n.2) (r:List UInt8):yZ (gR n++r)=some (n,r):=by
 unfold yZ gR tT
 obtain ⟨a,b⟩:=hd
 rw [List.append_assoc,List.append_assoc,aBB (by omega) (by omega)]
 simp only [fF,List.map_cons,List.map_nil,List.cons_append,List.nil_append]
 rw [qQ (by omega),xK h]
theorem zX:∀ {l:List Ngt},(∀n∈l,okN n.day)→(∀n∈l,n.sp.length≤8)→(∀n∈l,∀x∈n.sp,(okN x.e.1∧okN x.e.2)∧okN x.n.1∧okN x.n.2)→∀r,jZ l.length (l.flatMap gR++r)=some (l,r)
 |[],_,_,_,r=>rfl
 |n::l,h1,h2,h3,r=>by
  rw [List.length_cons,List.flatMap_cons,List.append_assoc,jZ,aFV (h1 n (List.mem_cons_self ..)) (h2 n (List.mem_cons_self ..)) (h3 n (List.mem_cons_self ..))]
  simp only
  rw [zX (fun y hy=>h1 y (List.mem_cons_of_mem _ hy)) (fun y hy=>h2 y (List.mem_cons_of_mem _ hy)) (fun y hy=>h3 y (List.mem_cons_of_mem _ hy))]
theorem aPa {s:Sch} (h:s.valid=true):0≤s.st∧s.st≤8:=by
 cases hg:goN s.ni 0 (-1) with
 |none=>rw [dS hg] at h;cases h
 |some m=>
  rw [iB hg] at h
  simp only [Bool.and_eq_true,decide_eq_true_eq] at h
  exact aJ6 h.2
theorem aFW {s:Sch} (h:s.valid=true):eS (vE s)=some (s,[]):=by
 have H:=aBx h
 have hst:=aPa h
 unfold vE iZ
 simp only [List.cons_append,List.nil_append,List.append_assoc,eS]
 rw [if_pos trivial,wA H.v]
 have hni:=H.ni
 simp only [fF,List.map_cons,List.map_nil,List.cons_append,List.nil_append]
 rw [qQ (by omega)]
 have:=zX H.day H.sp H.spt []
 rw [List.append_nil] at this
 rw [this]
 simp only
 rw [aHU (by omega) (by omega)]
theorem aJ9 (l:List UInt8):(yY l).take ((yY l).length - 2)=l:=by
 unfold yY
 have:(l++fF [((chk l / 256:Nat):Int),((chk l%256:Nat):Int)]).length - 2=l.length:=by simp [fF]
 rw [this,List.take_left]
theorem aAy (l:List UInt8):(yY l).length=l.length+2:=by simp [yY,fF]
theorem aCE {s:Sch} (h:s.valid=true):qP (oS s)=some s∧¬aHT (oS s):=by
 have h1:(oS s).take ((oS s).length - 2)=vE s:=aJ9 _
 constructor
 ·unfold qP
  rw [h1,aFW h]
  simp [h]
 unfold aHT
 rw [h1]
 have:=aAy (vE s)
 rintro (h2|h2)
 ·simp only [oS] at h2;omega
 exact h2 rfl
theorem aBC {b:List UInt8} {s:Sch} (h:qP b=some s):s.valid=true∧oS s=b:=by
 unfold qP at h
 split at h
 ·cases h
 split at h
 ·rename_i h2
  cases h
  exact h2.2
 cases h
theorem wB {s:Sch} (h:s.valid=true):(oS s).length≤4096:=by
 have H:=aBx h
 have h1:(pL s.v).length≤10:=gJ H.v
 have h2:∀n∈s.ni,(gR n).length≤166:=fun n hn=>by
  have hd:okN n.day:=H.day n hn
  have h3:=rM (n:=n.day) ⟨by unfold okN at hd;omega,by unfold okN at hd;omega⟩
  have h4:(n.sp.flatMap oZ).length≤20*n.sp.length:=tU fun x hx=>by
   have a:=gJ (H.spt n hn x hx).1
   have b:=gJ (H.spt n hn x hx).2
   simp only [oZ,List.length_append]
   omega
  have h5:=H.sp n hn
  simp only [gR,tT,List.length_append,oR,List.length_cons,List.length_nil]
  omega
 have h3:=tU h2
 have h4:=H.ni
 simp only [oS,aAy,vE,iZ,List.length_append,oR,List.length_cons,List.length_nil]
 omega
end
section
open Go.Gh
structure eI1 {α:Type} (a b:α):Prop where
 h:a=b:=by (simp only [fH,zO,aAZ,aC3,aC4,aC5,cZ,gev,ofV,aT,eZ,aF,aI,upd,yes,aCO,jR,nW,aAb,aAa,kJ,nC,uQ,pB,lH,splice,aAC,kD,iD,eG,eU,nS,nD,eA,kK,eV,jO,aAD,kS,iN,aAc,nT,aAd,nU,cP,eW,eX,eN,iO,eB,fN,eH,Option.getD_none,Option.getD_some,gS,eI,gT,jQ,fO,pW,eC,jA,mkAgg,mkFn,mkIface,mkTuple,tA,G.cells,good,cS,bB,G.one,P.one,tI,bG,bR,fV,bU,oE,eF,dK,toP,iC,P.size,P.cells,List.map_cons,List.map_nil,List.take_succ_cons,List.take_zero,List.drop_succ_cons,List.drop_zero,List.take_nil,List.drop_nil,List.cons_append,List.nil_append,List.append_nil,List.length_cons,List.length_nil,List.getElem?_cons_zero,List.getElem?_cons_succ,List.getElem?_nil,List.set_cons_zero,List.set_cons_succ,List.flatMap_cons,List.flatMap_nil,List.getElem?_toArray,List.getElem?_map,List.length_map,Option.map_some,Option.map_none,Nat.mul_one,List.length_set,kO,gZ,Nat.reduceEqDiff,Nat.reduceAdd,Nat.reduceMul,Nat.reduceSub,Nat.reduceLeDiff,Nat.add_zero,Nat.zero_add,Int.toNat_natCast,Int.reduceToNat,reduceIte,reduceCtorEq,eq_self,if_true,if_false,and_true,true_and,true_or,or_true,or_false,false_or,Bool.false_eq_true,ne_eq,not_true_eq_false,not_false_eq_true,cond_true,cond_false,Bool.and_true,Bool.true_and,Bool.and_false,Bool.false_and,Bool.or_true,Bool.true_or,Bool.or_false,Bool.false_or,Bool.not_true,Bool.not_false,aAh,oX,wZ,aAi,aAj,rU,rV,kG,rW,rX,rY,rZ,sA,sB,sC,sD,sE,sF,sG,sH,sI,sJ,sK,sL,sM,sN,sO,sP,sQ,sR,sS,sT,sU,lK,lL,lM,lN,lO,lP,lQ,lR,lS,lT,lU,lV,lW,lX,lY,lZ,mA,mB,mC,mD,mE,mF,mG,mH,mJ,mL,mM,mN,mO,mQ,mR,mS,mT,mU,mV,mW,mX]<;>rfl)
structure eI2 {α:Type} (a b:α):Prop where
 h:a=b:=by (simp only [eL,dM,gN,dA,bO,bS,iS,nF,dP,G.idl,G.idls,cA,List.nil_append,List.append_nil,List.cons_append,aF,aI,Nat.reduceEqDiff,reduceIte,List.mem_cons,List.not_mem_nil,or_false,or_true,true_or,false_or,List.filter_cons,List.filter_nil,ne_eq,not_true_eq_false,not_false_eq_true,decide_true,decide_false,Bool.false_eq_true,List.all_cons,List.all_nil,Bool.and_true]<;>rfl)
variable {E:Env Tryz.prog} {C:Cx E} {r:Option Nat} {ops:Array Oper} {Q:GE→Sg E→Prop} {rest lst:List Oper} {l:List (Nat×G)} {m:List (Nat×Ob)} {A:E.α} {df:List GD} {g:G}
theorem fk1 (I:List Nat) {fn:Func} {R:cL E→Prop} {d d':Prop} {v:P} {m':List (Nat×Ob)} {x1:ResultVar} (hR:R (.ok (.p v) (aG m') A)) (hrs:fn.results.toList=[x1]:=by rfl) (hg:fH Tryz.prog (aG m) (bA l) [x1]=some (d,g):=by exact eI1.h {}) (hp:toP (aG m) g=some (d',v):=by (simp only [toP,iC,aF,aI,Nat.reduceEqDiff,reduceIte,and_true,true_and]<;>rfl)) (hm:bS I m=m':=by exact eI2.h {}) (h3:dP (bO m I) I=true:=by exact eI2.h {}) (hne:∀i∈I,aG m i ≠ .none:=by simp [aF,aI]) (hd:d:=by simp) (hd':d':=by simp):Fin Tryz.prog fn R (sg l m A []):=aJk (by rw [hrs];exact hg) hd hp hd' hm h3 hne hR
end
section
open Go.Gh
variable {E:Env Tryz.prog} {A:E.α}
structure aDx (c:Prop):Prop where
 h:c:=by (first|exact True.intro|omega|(simp only [inI];omega)|((repeat' apply And.intro)<;>(first|trivial|omega|(simp only [bV,List.length_cons];omega)|exact eQ _|exact eQ (_::_)|(simp only [inI];omega));done)|(have:=eQ;simp [P.size,bV,inI]<;>first|omega|exact this _|exact ⟨this _,by omega⟩|assumption|grind))
theorem aOb {x y:UInt8}:((x.toNat:Int)=y.toNat)↔x=y:=⟨fun h=>UInt8.toNat_inj.1 (by omega),fun h=>by rw [h]⟩
theorem aHV {a b:List UInt8} {k:Nat} {x y:UInt8} (ha:a[k]? = some x) (hb:b[k]? = some y) (h:a.take k=b.take k) (e:x=y):a.take (k+1)=b.take (k+1):=by rw [List.take_add_one,List.take_add_one,ha,hb,h,e]
theorem aGM:aJ Tryz.prog 77:=aJ.mk Tryz.func77 (by kernel_rfl) rfl
theorem aAz (a b:List UInt8) (h:a.length≤900000):bF Tryz.prog 77 [.list (u8s a),.list (u8s b)] (.ok (.bool (decide (a=b)))):=by
 refine bL Tryz.func77 (rfl:Tryz.f77.body=some _) rfl ?_
 intro E A C hN hL
 replace hN:C.N=26:=hN
 simp only [Gh.num,List.map_cons,List.map_nil,Nat.reduceAdd]
 have hul:∀l:List UInt8,(u8s l).length=l.length:=bV
 repeat apply aA
 apply aB
 refine v0 ?_
 apply aC
 refine cl [0,1] ?_
 repeat apply aA
 apply aB
 iterate 5 refine v0 ?_
 apply aC
 repeat apply aA
 refine cB (k1:=fun hb1=>?_) (k0:=fun hb1=>?_)
 ·replace hb1:=hB.h {} hb1
  try rw [eqI] at hb1
  repeat apply aA
  apply aB
  refine v0 ?_
  apply aC
  repeat apply aA
  refine aL ?_
  repeat (first|refine aH ?_|refine aE ?_|refine aD ?_)
  refine aM ?_
  refine fp ?_
  simp only [dT.at,cL.ok.injEq,G.p.injEq,P.bool.injEq,true_and,and_true]
  first
  |(
    have h:¬a=b:=fun e=>by have h2:=congrArg List.length e;omega
    rw [decide_eq_false h];done)
  |(
    obtain rfl:k=a.length:=by omega
    have h:a=b:=by have h2:=htk;rw [List.take_length,show a.length=b.length by omega,List.take_length] at h2;exact h2
    rw [decide_eq_true h];done)
  |(
    have h:¬a=b:=fun e=>by subst e;rw [hx] at hy;cases hy;omega
    rw [decide_eq_false h];done)
 replace hb1:=hB.h {} hb1
 try rw [eqI] at hb1
 repeat apply aA
 refine aQ ?_
 refine cl [0,1] ?_
 repeat apply aA
 apply aB
 iterate 3 refine v0 ?_
 apply aC
 refine cl [0,1,12,13] ?_
 repeat apply aA
 refine aP ?_
 repeat apply aA
 refine cJ (fun mz σ=>∃k:Nat,(k≤a.length)∧(a.length≤b.length∧b.length≤a.length)∧(a.take k=b.take k)∧mz=a.length - k∧σ=(sg [(0,.p (.list (u8s a))),(1,.p (.list (u8s b))),(12,.p (.int .i64 (a.length:Nat))),(13,.p (.int .i64 (k:Nat)))] [] A []:Sg E)) ?_ (fun mz σ hI=>?_)
 ·refine gA [0,1,12,13] ?_
  exact ⟨_,0,by omega,⟨by omega,by omega⟩,by simp,rfl,rfl⟩
 obtain ⟨k,hk,hab,htk,hnn,rfl⟩:=hI
 repeat apply aA
 apply aB
 refine v0 ?_
 apply aC
 repeat apply aA
 refine cB (k1:=fun hb2=>?_) (k0:=fun hb2=>?_)
 ·replace hb2:=hB.h {} hb2
  try rw [eqI] at hb2
  repeat apply aA
  refine aQ ?_
  refine cl [0,1,12,13] ?_
  repeat apply aA
  refine aP ?_
  repeat apply aA
  apply aB
  iterate 2 refine v0 ?_
  apply aC
  refine cl [0,1,5,12,13] ?_
  repeat apply aA
  obtain ⟨hab1,hab2⟩:=hab
  obtain ⟨x,hx⟩:=fT (l:=a) (k:=k) (by omega)
  obtain ⟨y,hy⟩:=fT (l:=b) (k:=k) (by omega)
  have hxa:=aFT hx
  have hyb:=aFT hy
  refine rd ?_
  refine d0 0 ?_
  refine d0 1 ?_
  refine d1 2 (hc:=aDx.h {}) ?_
  refine d0 3 ?_
  refine d0 4 ?_
  refine d0 5 ?_
  refine d1 6 (hc:=aDx.h {}) ?_
  refine d0 7 ?_
  refine d0 8 ?_
  refine dz 9 [0,0,3,7,0,0,48,112,255] ?_
  refine de 9 ?_
  repeat apply aA
  refine cB (k1:=fun hb3=>?_) (k0:=fun hb3=>?_)
  ·replace hb3:=hB.h {} hb3
   try rw [eqI] at hb3
   repeat apply aA
   apply aB
   refine v0 ?_
   apply aC
   repeat apply aA
   refine aL ?_
   repeat (first|refine aH ?_|refine aE ?_|refine aD ?_)
   refine aM ?_
   refine fp ?_
   simp only [dT.at,cL.ok.injEq,G.p.injEq,P.bool.injEq,true_and,and_true]
   first
   |(
     have h:¬a=b:=fun e=>by have h2:=congrArg List.length e;omega
     rw [decide_eq_false h];done)
   |(
     obtain rfl:k=a.length:=by omega
     have h:a=b:=by have h2:=htk;rw [List.take_length,show a.length=b.length by omega,List.take_length] at h2;exact h2
     rw [decide_eq_true h];done)
   |(
     have h:¬a=b:=fun e=>by subst e;rw [hx] at hy;cases hy;omega
     rw [decide_eq_false h];done)
  replace hb3:=hB.h {} hb3
  try rw [eqI] at hb3
  repeat apply aA
  refine aQ ?_
  refine cl [0,1,12,13] ?_
  repeat apply aA
  apply aB
  refine v1 (hc:=aDx.h {}) ?_
  refine v0 ?_
  apply aC
  refine dN [0,1,12,13] (h:=?_) (hV:=?_) (n':=a.length - (k+1))
  ·omega
  exact ⟨k+1,by omega,⟨hab1,hab2⟩,aHV hx hy htk (aOb.1 (by first|assumption|omega)),rfl,rfl⟩
 replace hb2:=hB.h {} hb2
 try rw [eqI] at hb2
 repeat apply aA
 refine bY ?_
 repeat (first|refine bI ?_|refine aY ?_|refine bC ?_|refine bJ rfl ?_)
 refine cl [] ?_
 repeat apply aA
 apply aB
 refine v0 ?_
 apply aC
 repeat apply aA
 refine aL ?_
 repeat (first|refine aH ?_|refine aE ?_|refine aD ?_)
 refine aM ?_
 refine fp ?_
 simp only [dT.at,cL.ok.injEq,G.p.injEq,P.bool.injEq,true_and,and_true]
 first
 |(
   have h:¬a=b:=fun e=>by have h2:=congrArg List.length e;omega
   rw [decide_eq_false h];done)
 |(
   obtain rfl:k=a.length:=by omega
   have h:a=b:=by have h2:=htk;rw [List.take_length,show a.length=b.length by omega,List.take_length] at h2;exact h2
   rw [decide_eq_true h];done)
 |(
   have h:¬a=b:=fun e=>by subst e;rw [hx] at hy;cases hy;omega
   rw [decide_eq_false h];done)
theorem aMi:aJ Tryz.prog 76:=aJ.mk Tryz.func76 (by kernel_rfl) rfl
theorem aGN (l:List UInt8) (h:l.length≤900000):Gh.bD E 76 [.p (.list (u8s l))] (aG []) A (fun y=>y = .ok (.own 5000 l.length) (aG [(5000,.arr 5 1 (u8s l) false)]) A):=by
 refine spX 8 Tryz.func76 rfl ?_
 intro C hN hL
 simp only [Gh.num,List.map_cons,List.map_nil,Nat.reduceAdd]
 have hul:∀l:List UInt8,(u8s l).length=l.length:=bV
 repeat apply aA
 apply aB
 refine v0 ?_
 apply aC
 refine cl [0] ?_
 repeat apply aA
 apply aB
 refine v0 ?_
 refine nq0 (k:=fun bq hq=>?_)
 apply aC
 repeat apply aA
 refine cB (k1:=fun hb1=>?_) (k0:=fun hb1=>?_)
 ·replace hb1:=hB.h {} hb1
  repeat apply aA
  obtain rfl:l=[]:=by have:=hq hb1;cases l with|nil=>rfl|cons a l=>cases this
  apply aB
  refine v0 ?_
  apply aC
  repeat apply aA
  refine yI 2 5000 5 1 false (by simp only [aT,Nat.reduceEqDiff,reduceIte]) (by simp only [aF,aI,Nat.reduceEqDiff,reduceIte]) (by omega) ?_
  repeat apply aA
  refine aL ?_
  repeat (first|refine aH ?_|refine aE ?_|refine aD ?_)
  refine aM ?_
  refine fh [5000] ?_
  first|rfl|(simp [u8s];done)
 replace hb1:=hB.h {} hb1
 repeat apply aA
 refine aQ ?_
 refine cl [0] ?_
 repeat apply aA
 apply aB
 refine n1 5000 true (hc:=aDx.h {}) ?_
 refine v0 ?_
 refine n1 170 false (hc:=aDx.h {}) ?_
 refine v0 ?_
 apply aC
 repeat apply aA
 refine aL ?_
 repeat (first|refine aH ?_|refine aE ?_|refine aD ?_)
 refine aM ?_
 refine fh [5000] ?_
 first|rfl|(simp [u8s];done)
theorem nG:aJ Tryz.prog 78:=aJ.mk Tryz.func78 (by kernel_rfl) rfl
theorem oV (b:UInt8) (l:List UInt8):Gh.bD E 78 [.ref 0 0] (aG [(0,.cells [.p (.list (u8s (b::l)))] 0)]) A (fun y=>y = .ok (.p (.int .i64 (b.toNat:Nat))) (aG [(0,.cells [.p (.list (u8s l))] 0)]) A):=by
 refine spX 14 Tryz.func78 rfl ?_
 intro C hN hL
 simp only [Gh.num,List.map_cons,List.map_nil,Nat.reduceAdd]
 have hb8:=UInt8.toNat_lt b
 have hul:∀l:List UInt8,(u8s l).length=l.length:=bV
 have hub:u8s (b::l) = .int .u8 (b.toNat:Nat)::u8s l:=rfl
 repeat apply aA
 apply aB
 refine v0 ?_
 apply aC
 refine cl [0] ?_
 repeat apply aA
 apply aB
 iterate 3 refine v0 ?_
 refine rb 5 true (h:=by (first|rfl|exact decide_eq_true (by simp)|exact decide_eq_true (by omega)|simp|(simp;omega))) ?_
 refine pc0 (spec:=bH _) (hent:=bX) ?_
 apply aC
 refine cl [0] ?_
 repeat apply aA
 apply aB
 refine v0 ?_
 refine v1 (hc:=aDx.h {}) ?_
 refine v0 ?_
 refine v1 (hc:=aDx.h {}) ?_
 refine v0 ?_
 apply aC
 refine cl [0,2] ?_
 repeat apply aA
 apply aB
 refine v0 ?_
 refine v1 (hc:=aDx.h {}) ?_
 refine s1 (hc:=aDx.h {}) ?_
 apply aC
 refine cl [0,2] ?_
 repeat apply aA
 apply aB
 iterate 2 refine v0 ?_
 apply aC
 repeat apply aA
 refine aL ?_
 repeat (first|refine aH ?_|refine aE ?_|refine aD ?_)
 refine aM ?_
 refine fh [0] ?_
 simp [List.take_of_length_le,bV]
theorem aBD  : Gh.bD E 78 [.ref 0 0] (aG [(0,.cells [.p (.list (u8s []))] 0)]) A (fun y=>y = .panic (.iface 218 (.agg [.int .i64 8])) (aG [(0,.cells [.p (.list (u8s []))] 0)]) A):=by
 refine spX 14 Tryz.func78 rfl ?_
 intro C hN hL
 simp only [Gh.num,List.map_cons,List.map_nil,Nat.reduceAdd]
 have hul:∀l:List UInt8,(u8s l).length=l.length:=bV
 repeat apply aA
 apply aB
 refine v0 ?_
 apply aC
 refine cl [0] ?_
 repeat apply aA
 apply aB
 iterate 3 refine v0 ?_
 refine rb 5 false (h:=by (first|rfl|simp [u8s])) ?_
 refine pp0 (spec:=cX _) (hent:=bX) ?_
 repeat (first|refine aO ?_|refine aN ?_|refine aW ?_)
 refine fph [0] ?_
 rfl
end
section
open Go.Gh
variable {E:Env Tryz.prog} {A:E.α}
structure tV (c:Prop):Prop where
 h:c:=by (first|exact True.intro|omega|(simp only [inI];omega)|((repeat' apply And.intro)<;>(first|trivial|omega|(simp only [bV,List.length_cons];omega)|exact eQ _|exact eQ (_::_)|(simp only [inI];omega));done)|(have:=eQ;simp [P.size,bV,inI]<;>first|omega|exact this _|exact ⟨this _,by omega⟩|assumption|grind))
theorem aOc (x y:Nat) (hx:x<18446744073709551616) (hy:y<18446744073709551616):pA .or .u64 (x:Int) (y:Int)=((x ||| y:Nat):Int):=by
 have e1:(BitVec.ofInt 64 (x:Int)).toNat=x:=by rw [BitVec.toNat_ofInt];omega
 have e2:(BitVec.ofInt 64 (y:Int)).toNat=y:=by rw [BitVec.toNat_ofInt];omega
 have h:(x ||| y)<2^64:=Nat.or_lt_two_pow hx hy
 show IntKind.u64.wrap ((BitVec.ofInt 64 (x:Int) ||| BitVec.ofInt 64 (y:Int)).toNat:Int)=_
 rw [BitVec.toNat_or,e1,e2]
 exact IntWalk.u64_in ((x ||| y:Nat):Int) (by omega)
theorem aLN (x:Nat) (hx:x<18446744073709551616):pA .and .u64 (x:Int) 1=((x%2:Nat):Int):=by
 have e1:(BitVec.ofInt 64 (x:Int)).toNat=x:=by rw [BitVec.toNat_ofInt];omega
 have e2:(BitVec.ofInt 64 (1:Int)).toNat=1:=by decide
 show IntKind.u64.wrap ((BitVec.ofInt 64 (x:Int) &&& BitVec.ofInt 64 (1:Int)).toNat:Int)=_
 rw [BitVec.toNat_and,e1,e2,Nat.and_one_is_mod]
 exact IntWalk.u64_in ((x%2:Nat):Int) (by omega)
theorem aKa {acc b k:Nat} (ha:acc<2^(7*k)) (hk:k<6):pA .or .u64 (acc:Int) (IntKind.u64.wrap (IntKind.u64.wrap ((b:Int).tmod 128)*2^min (7*k) IntKind.u64.bits))=((acc+b%128*2^(7*k):Nat):Int):=by
 have e0:(b:Int).tmod 128=((b%128:Nat):Int):=by rw [Int.tmod_eq_emod_of_nonneg (by omega)];omega
 have hp:2^(7*k)≤2^35:=Nat.pow_le_pow_right (by decide) (by omega)
 have h35:(2:Nat)^35=34359738368:=by decide
 have hm:b%128*2^(7*k)≤127*2^35:=Nat.mul_le_mul (by omega) hp
 have e1:(2:Int)^min (7*k) IntKind.u64.bits=((2^(7*k):Nat):Int):=by
  have:min (7*k) IntKind.u64.bits=7*k:=Nat.min_eq_left (by show 7*k≤64;omega)
  rw [this];simp
 rw [e0,e1,IntWalk.u64_in ((b%128:Nat):Int) (by omega),←Int.natCast_mul,IntWalk.u64_in _ (by omega),aOc _ _ (by omega) (by omega)]
 congr 1
 have:=Nat.shiftLeft_add_eq_or_of_lt ha (b%128)
 rw [Nat.shiftLeft_eq] at this
 rw [Nat.or_comm,←this,Nat.add_comm]
theorem aKb (n:Int):IntKind.i64.wrap n=(n+9223372036854775808)%18446744073709551616 - 9223372036854775808:=by rw [IntKind.wrap_i64]
theorem aPb (u:Nat):(u:Int).fdiv (2^min 1 IntKind.u64.bits)=((u / 2:Nat):Int):=by
 rw [show (2:Int)^min 1 IntKind.u64.bits=2 by decide,Int.fdiv_eq_ediv_of_nonneg _ (by omega)]
 omega
theorem aLO {u:Nat} (h:u<4398046511104):pA .xor .i64 ((u / 2:Nat):Int) (0 - ((u%2:Nat):Int))=unz u:=by
 have e3:(BitVec.ofInt 64 ((u / 2:Nat):Int)).toNat=u / 2:=by rw [BitVec.toNat_ofInt];omega
 unfold unz
 show IntKind.i64.wrap ((BitVec.ofInt 64 ((u / 2:Nat):Int) ^^^ BitVec.ofInt 64 (0 - ((u%2:Nat):Int))).toNat:Int)=_
 rw [BitVec.toNat_xor,e3]
 split
 ·rename_i h0
  rw [h0,show (BitVec.ofInt 64 (0 - ((0:Nat):Int))).toNat=0 by decide,Nat.xor_zero,aKb]
  omega
 rename_i h0
 have h1:u%2=1:=by omega
 rw [h1,show (BitVec.ofInt 64 (0 - ((1:Nat):Int))).toNat=18446744073709551615 by decide,aEG _ (by omega),aKb]
 omega
theorem aDy:∀ {f sh u:Nat} {l:List UInt8} {z:Nat×List UInt8},oT f sh u l=some z→u<2^sh→z.1<2^(sh+7*f)
 |0,_,_,_,_,h,_=>by simp [oT] at h
 |f+1,sh,u,[],z,h,_=>by simp [oT] at h
 |f+1,sh,u,b::l,z,h,hu=>by
  have hs:u+b.toNat%128*2^sh<2^(sh+7):=by
   have h1:b.toNat%128*2^sh≤127*2^sh:=Nat.mul_le_mul_right _ (by omega)
   have h2:(2:Nat)^(sh+7)=128*2^sh:=by rw [Nat.pow_add];omega
   omega
  rw [oT] at h
  split at h
  ·cases h
   exact Nat.lt_of_lt_of_le hs (Nat.pow_le_pow_right (by decide) (by omega))
  have:=aDy h hs
  rwa [show sh+7*(f+1)=sh+7+7*f by omega]
theorem aGO {l:List UInt8} {v:Int} {r:List UInt8} (h:nI l=some (v,r)) : -2199023255552≤v∧v<2199023255552:=by
 unfold nI at h
 cases e:oT 6 0 0 l with
 |none=>rw [e] at h;cases h
 |some z=>
  rw [e] at h
  simp only [Option.some.injEq,Prod.mk.injEq] at h
  have:=aDy e (by decide)
  rw [←h.1]
  unfold unz
  split<;>omega
def aCF:Nat→List UInt8→List UInt8
 |0,l=>l
 |_+1,[]=>[]
 |f+1,b::l=>if b.toNat<128 then l else aCF f l
def aEK (l:List UInt8):List UInt8:=aCF 6 l
def aKc (l:List UInt8):List UInt8:=match nI l with
 |none=>aEK l
 |some z=>aEK z.2
theorem aEL {acc b k:Nat} (ha:acc<2^(7*k)):acc+b%128*2^(7*k)<2^(7*(k+1)):=by
 have h1:b%128*2^(7*k)≤127*2^(7*k):=Nat.mul_le_mul_right _ (by omega)
 have h2:(2:Nat)^(7*(k+1))=128*2^(7*k):=by rw [Nat.mul_add,Nat.pow_add];omega
 omega
theorem zY:aJ Tryz.prog 79:=aJ.mk Tryz.func79 (by kernel_rfl) rfl
theorem aKd (l0:List UInt8) (w:Nat) (r:List UInt8) (h:oT 6 0 0 l0=some (w,r)):Gh.bD E 79 [.ptr [.fn (.func 78) [] [.ref 0 0]]] (aG [(0,.cells [.p (.list (u8s l0))] 0)]) A (fun y=>y = .ok (.p (.int .i64 (unz w))) (aG [(0,.cells [.p (.list (u8s r))] 0)]) A):=by
 refine spX 29 Tryz.func79 rfl ?_
 intro C hN hL
 simp only [Gh.num,List.map_cons,List.map_nil,Nat.reduceAdd]
 repeat apply aA
 apply aB
 refine v0 ?_
 apply aC
 refine cl [0] ?_
 repeat apply aA
 apply aB
 refine v0 ?_
 apply aC
 refine cl [0,2] ?_
 repeat apply aA
 apply aB
 refine v0 ?_
 apply aC
 refine cl [0,2,3] ?_
 repeat apply aA
 refine aP ?_
 repeat apply aA
 refine cJ (fun mz σ=>∃(k acc:Nat) (l:List UInt8),(k≤6)∧(acc<2^(7*k))∧(oT (6 - k) (7*k) acc l=some (w,r))∧mz=6 - k∧σ=(sg [(0,.ptr [.fn (.func 78) [] [.ref 0 0]]),(2,.p (.int .u64 (acc:Nat))),(3,.p (.int .i64 ((7*k:Nat):Int)))] [(0,.cells [.p (.list (u8s l))] 0)] A []:Sg E)) ?_ (fun mz σ hI=>?_)
 ·refine gA [0,2,3] ?_
  exact ⟨_,0,0,l0,by omega,by decide,h,rfl,rfl⟩
 obtain ⟨k,acc,l,hk,hac,hf,hnn,rfl⟩:=hI
 repeat apply aA
 refine aP ?_
 repeat apply aA
 have hk6:k<6:=by apply Nat.lt_of_not_le;intro h6;rw [show 6 - k=0 by omega] at hf;simp [oT] at hf
 apply aB
 iterate 2 refine v0 ?_
 refine rb 8 true (h:=by (first|with_reducible rfl|exact decide_eq_true (by omega)|rfl|decide)) ?_
 refine pc0 (spec:=bH _) (hent:=bX) ?_
 apply aC
 refine cl [0,2,3] ?_
 repeat apply aA
 obtain ⟨b,l,rfl⟩:∃b r,l=b::r:=by cases l with|nil=>(rw [show 6 - k=(6 - (k+1))+1 by omega] at hf;simp [oT] at hf)|cons b r=>exact ⟨b,r,rfl⟩
 have hb8:=UInt8.toNat_lt b
 apply aB
 refine v0 ?_
 refine oc0 [(0,0)] [] [0] none (spec:=oV b l) (hent:=nG) ?_
 refine v0 ?_
 apply aC
 refine cl [0,2,3,4] ?_
 repeat apply aA
 have hor:=aKa (b:=b.toNat) hac (by omega:k<6)
 have hpn:=aEL (b:=b.toNat) hac
 apply aB
 iterate 2 refine v0 ?_
 iterate 2 refine v1 (hc:=tV.h {}) ?_
 refine v0 ?_
 refine v1 (hc:=tV.h {}) ?_
 iterate 2 refine v0 ?_
 apply aC
 refine cl [0,2,3,4] ?_
 repeat apply aA
 apply aB
 iterate 2 refine v0 ?_
 apply aC
 repeat apply aA
 refine cB (k1:=fun hb1=>?_) (k0:=fun hb1=>?_)
 ·replace hb1:=hB.h {} hb1
  try rw [eqI] at hb1
  repeat apply aA
  have hk1:6 - k=(6 - (k+1))+1:=by omega
  rw [hk1,oT,if_pos (by omega)] at hf
  simp only [Option.some.injEq,Prod.mk.injEq] at hf
  obtain ⟨hfw,rfl⟩:=hf
  rw [hfw]
  clear hor hpn
  have hw42:w<4398046511104:=aDy h (by decide)
  have hfd:=aPb w
  have had:=aLN w (by omega)
  have hxo:=aLO hw42
  apply aB
  refine v0 ?_
  iterate 2 refine v1 (hc:=tV.h {}) ?_
  iterate 2 refine v0 ?_
  iterate 2 refine v1 (hc:=tV.h {}) ?_
  iterate 2 refine v0 ?_
  apply aC
  repeat apply aA
  refine aL ?_
  repeat (first|refine aH ?_|refine aE ?_|refine aD ?_)
  refine aM ?_
  refine fh [0] ?_
  rfl
 replace hb1:=hB.h {} hb1
 try rw [eqI] at hb1
 repeat apply aA
 refine aQ ?_
 refine cl [0,2,3] ?_
 repeat apply aA
 apply aB
 refine v0 ?_
 refine v1 (hc:=tV.h {}) ?_
 refine v0 ?_
 apply aC
 repeat refine bZ ?_
 refine dN [0,2,3] (h:=?_) (hV:=?_) (n':=mz - 1)
 ·omega
 have hk1:6 - k=(6 - (k+1))+1:=by omega
 refine ⟨k+1,(acc+b.toNat%128*2^(7*k)),l,by omega,hpn,?_,by omega,sgE ?_ rfl⟩
 ·rw [hk1,oT,if_neg (by omega)] at hf;rw [show 7*(k+1)=7*k+7 by omega];exact hf
 rw [show ((7*(k+1):Nat):Int)=((7*k:Nat):Int)+7 by omega]
theorem aKe (l0:List UInt8) (h:oT 6 0 0 l0=none):Gh.bD E 79 [.ptr [.fn (.func 78) [] [.ref 0 0]]] (aG [(0,.cells [.p (.list (u8s l0))] 0)]) A (fun y=>y = .panic (.iface 218 (.agg [.int .i64 8])) (aG [(0,.cells [.p (.list (u8s (aCF 6 l0)))] 0)]) A):=by
 refine spX 29 Tryz.func79 rfl ?_
 intro C hN hL
 simp only [Gh.num,List.map_cons,List.map_nil,Nat.reduceAdd]
 repeat apply aA
 apply aB
 refine v0 ?_
 apply aC
 refine cl [0] ?_
 repeat apply aA
 apply aB
 refine v0 ?_
 apply aC
 refine cl [0,2] ?_
 repeat apply aA
 apply aB
 refine v0 ?_
 apply aC
 refine cl [0,2,3] ?_
 repeat apply aA
 refine aP ?_
 repeat apply aA
 refine cJ (fun mz σ=>∃(k acc:Nat) (l:List UInt8),(k≤6)∧(acc<2^(7*k))∧(oT (6 - k) (7*k) acc l=none∧aCF (6 - k) l=aCF 6 l0)∧mz=6 - k∧σ=(sg [(0,.ptr [.fn (.func 78) [] [.ref 0 0]]),(2,.p (.int .u64 (acc:Nat))),(3,.p (.int .i64 ((7*k:Nat):Int)))] [(0,.cells [.p (.list (u8s l))] 0)] A []:Sg E)) ?_ (fun mz σ hI=>?_)
 ·refine gA [0,2,3] ?_
  exact ⟨_,0,0,l0,by omega,by decide,⟨h,rfl⟩,rfl,rfl⟩
 obtain ⟨k,acc,l,hk,hac,⟨hf,hre⟩,hnn,rfl⟩:=hI
 repeat apply aA
 refine aP ?_
 repeat apply aA
 have hcase:k=6∨(k<6∧l=[])∨(k<6∧∃b r,l=b::r):=by
  cases l with
  |nil=>exact (by omega:k=6∨k<6).elim .inl fun h6=>.inr (.inl ⟨h6,rfl⟩)
  |cons b r=>
         rcases (by omega:k=6∨k<6) with h6|h6
         ·exact .inl h6
         exact .inr (.inr ⟨h6,b,r,rfl⟩)
 rcases hcase with h6|⟨hk6,h6⟩|⟨hk6,b,l,rfl⟩
 ·repeat apply aA
  apply aB
  iterate 2 refine v0 ?_
  refine rb 8 false (h:=by (first|with_reducible rfl|exact decide_eq_false (by omega)|rfl|decide)) ?_
  refine pp0 (spec:=cX _) (hent:=bX) ?_
  repeat (first|refine aO ?_|refine aN ?_|refine aW ?_)
  refine fph [0] ?_
  rw [←hre,h6]
  rfl
 ·subst h6
  repeat apply aA
  apply aB
  iterate 2 refine v0 ?_
  refine rb 8 true (h:=by (first|with_reducible rfl|exact decide_eq_true (by omega)|rfl|decide)) ?_
  refine pc0 (spec:=bH _) (hent:=bX) ?_
  apply aC
  refine cl [0,2,3] ?_
  repeat apply aA
  apply aB
  refine v0 ?_
  refine op0 [(0,0)] [] [0] none (spec:=aBD) (hent:=nG) ?_
  repeat (first|refine aO ?_|refine aN ?_|refine aW ?_)
  refine fph [0] ?_
  rw [←hre,show 6 - k=(6 - (k+1))+1 by omega]
  rfl
 have hb8:=UInt8.toNat_lt b
 have hk1:6 - k=(6 - (k+1))+1:=by omega
 repeat apply aA
 apply aB
 iterate 2 refine v0 ?_
 refine rb 8 true (h:=by (first|with_reducible rfl|exact decide_eq_true (by omega)|rfl|decide)) ?_
 refine pc0 (spec:=bH _) (hent:=bX) ?_
 apply aC
 refine cl [0,2,3] ?_
 repeat apply aA
 apply aB
 refine v0 ?_
 refine oc0 [(0,0)] [] [0] none (spec:=oV b l) (hent:=nG) ?_
 refine v0 ?_
 apply aC
 refine cl [0,2,3,4] ?_
 repeat apply aA
 have hor:=aKa (b:=b.toNat) hac (by omega:k<6)
 have hpn:=aEL (b:=b.toNat) hac
 apply aB
 iterate 2 refine v0 ?_
 iterate 2 refine v1 (hc:=tV.h {}) ?_
 refine v0 ?_
 refine v1 (hc:=tV.h {}) ?_
 iterate 2 refine v0 ?_
 apply aC
 refine cl [0,2,3,4] ?_
 repeat apply aA
 apply aB
 iterate 2 refine v0 ?_
 apply aC
 repeat apply aA
 refine cB (k1:=fun hb1=>?_) (k0:=fun hb1=>?_)
 ·replace hb1:=hB.h {} hb1
  try rw [eqI] at hb1
  repeat apply aA
  exfalso
  rw [hk1,oT,if_pos (by omega)] at hf
  cases hf
 replace hb1:=hB.h {} hb1
 try rw [eqI] at hb1
 repeat apply aA
 refine aQ ?_
 refine cl [0,2,3] ?_
 repeat apply aA
 apply aB
 refine v0 ?_
 refine v1 (hc:=tV.h {}) ?_
 refine v0 ?_
 apply aC
 repeat refine bZ ?_
 refine dN [0,2,3] (h:=?_) (hV:=?_) (n':=mz - 1)
 ·omega
 refine ⟨k+1,(acc+b.toNat%128*2^(7*k)),l,by omega,hpn,⟨?_,?_⟩,by omega,sgE ?_ rfl⟩
 ·rw [hk1,oT,if_neg (by omega)] at hf;rw [show 7*(k+1)=7*k+7 by omega];exact hf
 ·rw [hk1,aCF,if_neg (by omega)] at hre;exact hre
 rw [show ((7*(k+1):Nat):Int)=((7*k:Nat):Int)+7 by omega]
theorem aEM (l:List UInt8) (v:Int) (r:List UInt8) (h:nI l=some (v,r)):Gh.bD E 79 [.ptr [.fn (.func 78) [] [.ref 0 0]]] (aG [(0,.cells [.p (.list (u8s l))] 0)]) A (fun y=>y = .ok (.p (.int .i64 v)) (aG [(0,.cells [.p (.list (u8s r))] 0)]) A):=by
 unfold nI at h
 cases e:oT 6 0 0 l with
 |none=>rw [e] at h;cases h
 |some z=>rw [e] at h;cases h;exact aKd l z.1 z.2 e
theorem aKf (l:List UInt8) (h:nI l=none):Gh.bD E 79 [.ptr [.fn (.func 78) [] [.ref 0 0]]] (aG [(0,.cells [.p (.list (u8s l))] 0)]) A (fun y=>y = .panic (.iface 218 (.agg [.int .i64 8])) (aG [(0,.cells [.p (.list (u8s (aEK l)))] 0)]) A):=by
 unfold nI at h
 cases e:oT 6 0 0 l with
 |none=>exact aKe l e
 |some z=>rw [e] at h;cases h
theorem xL:aJ Tryz.prog 80:=aJ.mk Tryz.func80 (by kernel_rfl) rfl
theorem aOd (l:List UInt8) (v w:Int) (r q:List UInt8) (h1:nI l=some (v,r)) (h2:nI r=some (w,q)):Gh.bD E 80 [.ptr [.fn (.func 79) [] [.ptr [.fn (.func 78) [] [.ref 0 0]]]]] (aG [(0,.cells [.p (.list (u8s l))] 0)]) A (fun y=>y = .ok (.p (.agg [.int .i64 v,.int .i64 (v+w)])) (aG [(0,.cells [.p (.list (u8s q))] 0)]) A):=by
 refine spX 11 Tryz.func80 rfl ?_
 intro C hN hL
 simp only [Gh.num,List.map_cons,List.map_nil,Nat.reduceAdd]
 have hlt1:=aGO h1
 have hlt2:=aGO h2
 repeat apply aA
 apply aB
 refine n1 110 false (hc:=tV.h {}) ?_
 apply aC
 refine cl [0,1] ?_
 repeat apply aA
 apply aB
 refine v0 ?_
 refine oc0 [(0,0)] [] [0] none (spec:=aEM l v r h1) (hent:=zY) ?_
 refine v0 ?_
 apply aC
 refine cl [0,1,2] ?_
 repeat apply aA
 apply aB
 iterate 3 refine v0 ?_
 refine oc0 [(0,0)] [] [0] none (spec:=aEM r w q h2) (hent:=zY) ?_
 refine v1 (hc:=tV.h {}) ?_
 refine v0 ?_
 refine s1 (hc:=tV.h {}) ?_
 apply aC
 repeat apply aA
 refine aL ?_
 repeat (first|refine aH ?_|refine aE ?_|refine aD ?_)
 refine aM ?_
 refine fh [0] ?_
 rfl
theorem aLP (l:List UInt8) (h1:nI l=none):Gh.bD E 80 [.ptr [.fn (.func 79) [] [.ptr [.fn (.func 78) [] [.ref 0 0]]]]] (aG [(0,.cells [.p (.list (u8s l))] 0)]) A (fun y=>y = .panic (.iface 218 (.agg [.int .i64 8])) (aG [(0,.cells [.p (.list (u8s (aEK l)))] 0)]) A):=by
 refine spX 11 Tryz.func80 rfl ?_
 intro C hN hL
 simp only [Gh.num,List.map_cons,List.map_nil,Nat.reduceAdd]
 repeat apply aA
 apply aB
 refine n1 110 false (hc:=tV.h {}) ?_
 apply aC
 refine cl [0,1] ?_
 repeat apply aA
 apply aB
 refine v0 ?_
 refine op0 [(0,0)] [] [0] none (spec:=aKf l h1) (hent:=zY) ?_
 repeat (first|refine aO ?_|refine aN ?_|refine aW ?_)
 refine fph [0] ?_
 rfl
theorem aLQ (l:List UInt8) (v:Int) (r:List UInt8) (h1:nI l=some (v,r)) (h2:nI r=none):Gh.bD E 80 [.ptr [.fn (.func 79) [] [.ptr [.fn (.func 78) [] [.ref 0 0]]]]] (aG [(0,.cells [.p (.list (u8s l))] 0)]) A (fun y=>y = .panic (.iface 218 (.agg [.int .i64 8])) (aG [(0,.cells [.p (.list (u8s (aEK r)))] 0)]) A):=by
 refine spX 11 Tryz.func80 rfl ?_
 intro C hN hL
 simp only [Gh.num,List.map_cons,List.map_nil,Nat.reduceAdd]
 repeat apply aA
 apply aB
 refine n1 110 false (hc:=tV.h {}) ?_
 apply aC
 refine cl [0,1] ?_
 repeat apply aA
 apply aB
 refine v0 ?_
 refine oc0 [(0,0)] [] [0] none (spec:=aEM l v r h1) (hent:=zY) ?_
 refine v0 ?_
 apply aC
 refine cl [0,1,2] ?_
 repeat apply aA
 apply aB
 iterate 3 refine v0 ?_
 refine op0 [(0,0)] [] [0] none (spec:=aKf r h2) (hent:=zY) ?_
 repeat (first|refine aO ?_|refine aN ?_|refine aW ?_)
 refine fph [0] ?_
 rfl
theorem zA (l:List UInt8) (s:Int×Int) (r:List UInt8) (h:fU l=some (s,r)):Gh.bD E 80 [.ptr [.fn (.func 79) [] [.ptr [.fn (.func 78) [] [.ref 0 0]]]]] (aG [(0,.cells [.p (.list (u8s l))] 0)]) A (fun y=>y = .ok (.p (.agg [.int .i64 s.1,.int .i64 s.2])) (aG [(0,.cells [.p (.list (u8s r))] 0)]) A):=by
 unfold fU at h
 split at h
 ·cases h
 rename_i z h1
 split at h
 ·cases h
 rename_i y h2
 cases h
 exact aOd l z.1 y.1 z.2 y.2 h1 h2
theorem aFX (l:List UInt8) (h:fU l=none):Gh.bD E 80 [.ptr [.fn (.func 79) [] [.ptr [.fn (.func 78) [] [.ref 0 0]]]]] (aG [(0,.cells [.p (.list (u8s l))] 0)]) A (fun y=>y = .panic (.iface 218 (.agg [.int .i64 8])) (aG [(0,.cells [.p (.list (u8s (aKc l)))] 0)]) A):=by
 unfold fU at h
 unfold aKc
 split at h
 ·rename_i h1
  try rw [h1]
  exact aLP l h1
 rename_i z h1
 try rw [h1]
 split at h
 ·rename_i h2
  exact aLQ l z.1 z.2 h1 h2
 cases h
end
section
open Go.Gh
variable {E:Env Tryz.prog} {A:E.α}
theorem zB:aJ Tryz.prog 125:=aJ.mk Tryz.func125 (by kernel_rfl) rfl
theorem aHW (c0 c1 c2 c3 c4:P):lB E 125 [.ref 0 0,.ref 1 0] (aG [(0,.cells [.p (.int .i64 0)] 0),(1,.cells [.p c0,.p c1,.p c2,.p c3,.p c4] 0)]) A (none) (fun y=>y = .ok (.p (.tuple [])) (aG [(0,.cells [.p (.int .i64 0)] 0),(1,.cells [.p c0,.p c1,.p c2,.p c3,.p c4] 0)]) A):=by
 refine fZ Tryz.func125 (some _) (rfl:Tryz.f125.body=some _) rfl rfl rfl (by decide) (Nat.le_of_ble_eq_true rfl) (fun id h=>?_) (fun j id h=>?_) ?_
 ·exact kA h
 ·exact kB h
 intro C hN hL
 replace hN:C.N=8:=hN
 simp only [Gh.num,List.map_cons,List.map_nil,Nat.reduceAdd,pP]
 refine oc0 [(0,0)] [] [0,0] none (spec:=rA 0) (hent:=sV) ?_
 apply aC
 refine (?_:gwp C none _ _ (sg _ _ _ []))
 repeat apply aA
 apply aB
 iterate 2 refine v0 ?_
 refine rb 6 false (h:=by (first|with_reducible rfl|exact decide_eq_false (by omega)|rfl|decide)) ?_
 apply aC
 repeat apply aA
 refine cF ?_
 repeat apply aA
 refine aQ ?_
 repeat refine bZ ?_
 refine dU ?_
 refine fh0 [0,1] ?_
 rfl
end
section
open Go.Gh
variable {E:Env Tryz.prog} {A:E.α}
structure xM (c:Prop):Prop where
 h:c:=by (first|exact True.intro|omega|(simp only [inI];omega)|(simp [P.size,bU,bG,bR,bB,cS,good,G.one,P.one,P.cells]<;>first|omega|assumption|simp_all))
theorem aEN (n:Int) (hn:n≠0) (c0 c1 c2 c3 c4 c5 c6:P):lB E 105 [.ref 0 0,.ref 1 0] (aG [(0,.cells [.p (.int .i64 0)] 0),(1,.cells [.p c0,.p c1,.p c2,.p c3,.p c4,.p c5,.p c6] 0)]) A (some (.iface 218 (.agg [.int .i64 n]))) (fun y=>y = .ok (.p (.tuple [])) (aG [(0,.cells [.p (.int .i64 n)] 0),(1,.cells [.nils,.p (.int .i64 0),.p (.int .i64 0),.p (.int .i64 0),.p (.int .i64 0),.p (.int .i64 0),.nils] 0)]) A):=by
 refine fZ Tryz.func105 (some _) (rfl:Tryz.f105.body=some _) rfl rfl rfl (by decide) (Nat.le_of_ble_eq_true rfl) (fun id h=>?_) (fun j id h=>?_) ?_
 ·exact kA h
 ·exact kB h
 intro C hN hL
 replace hN:C.N=8:=hN
 simp only [Gh.num,List.map_cons,List.map_nil,Nat.reduceAdd,pP]
 refine oc0 [(0,0)] [] [0,0] none (spec:=hM 0 n) (hent:=sV) ?_
 apply aC
 refine (?_:gwp C none _ _ (sg _ _ _ []))
 repeat apply aA
 apply aB
 iterate 2 refine v0 ?_
 refine rb 6 true (h:=by (simp [hn])) ?_
 apply aC
 repeat apply aA
 refine cT ?_
 repeat apply aA
 apply aB
 refine n1 120 false (hc:=xM.h {}) ?_
 apply aC
 refine cl [0,1,2] ?_
 repeat apply aA
 apply aB
 refine v0 ?_
 refine s1 (hc:=xM.h {}) ?_
 apply aC
 repeat refine bZ ?_
 refine dU ?_
 refine fh0 [0,1] ?_
 rfl
theorem aEO (n:Int) (hn:n≠0) (c0 c1 c2:P):lB E 116 [.ref 0 0,.ref 1 0] (aG [(0,.cells [.p (.int .i64 0)] 0),(1,.cells [.p c0,.p c1,.p c2] 0)]) A (some (.iface 218 (.agg [.int .i64 n]))) (fun y=>y = .ok (.p (.tuple [])) (aG [(0,.cells [.p (.int .i64 n)] 0),(1,.cells [.p (.int .i64 0),.p (.int .i64 0),.nils] 0)]) A):=by
 refine fZ Tryz.func116 (some _) (rfl:Tryz.f116.body=some _) rfl rfl rfl (by decide) (Nat.le_of_ble_eq_true rfl) (fun id h=>?_) (fun j id h=>?_) ?_
 ·exact kA h
 ·exact kB h
 intro C hN hL
 replace hN:C.N=8:=hN
 simp only [Gh.num,List.map_cons,List.map_nil,Nat.reduceAdd,pP]
 refine oc0 [(0,0)] [] [0,0] none (spec:=hM 0 n) (hent:=sV) ?_
 apply aC
 refine (?_:gwp C none _ _ (sg _ _ _ []))
 repeat apply aA
 apply aB
 iterate 2 refine v0 ?_
 refine rb 6 true (h:=by (simp [hn])) ?_
 apply aC
 repeat apply aA
 refine cT ?_
 repeat apply aA
 apply aB
 refine n1 120 false (hc:=xM.h {}) ?_
 apply aC
 refine cl [0,1,2] ?_
 repeat apply aA
 apply aB
 refine v0 ?_
 refine s1 (hc:=xM.h {}) ?_
 apply aC
 repeat refine bZ ?_
 refine dU ?_
 refine fh0 [0,1] ?_
 rfl
theorem aEP (n:Int) (hn:n≠0) (c0 c1 c2 c3 c4:P):lB E 125 [.ref 0 0,.ref 1 0] (aG [(0,.cells [.p (.int .i64 0)] 0),(1,.cells [.p c0,.p c1,.p c2,.p c3,.p c4] 0)]) A (some (.iface 218 (.agg [.int .i64 n]))) (fun y=>y = .ok (.p (.tuple [])) (aG [(0,.cells [.p (.int .i64 n)] 0),(1,.cells [.p (.int .i64 0),.p (.int .i64 0),.nils,.nils,.p (.int .i64 0)] 0)]) A):=by
 refine fZ Tryz.func125 (some _) (rfl:Tryz.f125.body=some _) rfl rfl rfl (by decide) (Nat.le_of_ble_eq_true rfl) (fun id h=>?_) (fun j id h=>?_) ?_
 ·exact kA h
 ·exact kB h
 intro C hN hL
 replace hN:C.N=8:=hN
 simp only [Gh.num,List.map_cons,List.map_nil,Nat.reduceAdd,pP]
 refine oc0 [(0,0)] [] [0,0] none (spec:=hM 0 n) (hent:=sV) ?_
 apply aC
 refine (?_:gwp C none _ _ (sg _ _ _ []))
 repeat apply aA
 apply aB
 iterate 2 refine v0 ?_
 refine rb 6 true (h:=by (simp [hn])) ?_
 apply aC
 repeat apply aA
 refine cT ?_
 repeat apply aA
 apply aB
 refine n1 120 false (hc:=xM.h {}) ?_
 apply aC
 refine cl [0,1,2] ?_
 repeat apply aA
 apply aB
 refine v0 ?_
 refine s1 (hc:=xM.h {}) ?_
 apply aC
 repeat refine bZ ?_
 refine dU ?_
 refine fh0 [0,1] ?_
 rfl
theorem lG:aJ Tryz.prog 73:=aJ.mk Tryz.func73 (by kernel_rfl) rfl
theorem aKg (c0 c1 c2 c3:P):lB E 73 [.ref 0 0,.ref 1 0] (aG [(0,.cells [.p (.int .i64 0)] 0),(1,.cells [.p c0,.p c1,.p c2,.p c3] 0)]) A (none) (fun y=>y = .ok (.p (.tuple [])) (aG [(0,.cells [.p (.int .i64 0)] 0),(1,.cells [.p c0,.p c1,.p c2,.p c3] 0)]) A):=by
 refine fZ Tryz.func73 (some _) (rfl:Tryz.f73.body=some _) rfl rfl rfl (by decide) (Nat.le_of_ble_eq_true rfl) (fun id h=>?_) (fun j id h=>?_) ?_
 ·exact kA h
 ·exact kB h
 intro C hN hL
 replace hN:C.N=7:=hN
 simp only [Gh.num,List.map_cons,List.map_nil,Nat.reduceAdd,pP]
 refine oc0 [(0,0)] [] [0,0] none (spec:=rA 0) (hent:=sV) ?_
 apply aC
 refine (?_:gwp C none _ _ (sg _ _ _ []))
 repeat apply aA
 apply aB
 iterate 2 refine v0 ?_
 refine rb 5 false (h:=by (first|with_reducible rfl|exact decide_eq_false (by omega)|rfl|decide)) ?_
 apply aC
 repeat apply aA
 refine cF ?_
 repeat apply aA
 refine aQ ?_
 repeat refine bZ ?_
 refine dU ?_
 refine fh0 [0,1] ?_
 rfl
theorem aAA (n:Int) (hn:n≠0) (c0 c1 c2 c3:P):lB E 73 [.ref 0 0,.ref 1 0] (aG [(0,.cells [.p (.int .i64 0)] 0),(1,.cells [.p c0,.p c1,.p c2,.p c3] 0)]) A (some (.iface 218 (.agg [.int .i64 n]))) (fun y=>y = .ok (.p (.tuple [])) (aG [(0,.cells [.p (.int .i64 n)] 0),(1,.cells [.p (.int .i64 0),.p (.int .i64 0),.nils,.p (.int .i64 0)] 0)]) A):=by
 refine fZ Tryz.func73 (some _) (rfl:Tryz.f73.body=some _) rfl rfl rfl (by decide) (Nat.le_of_ble_eq_true rfl) (fun id h=>?_) (fun j id h=>?_) ?_
 ·exact kA h
 ·exact kB h
 intro C hN hL
 replace hN:C.N=7:=hN
 simp only [Gh.num,List.map_cons,List.map_nil,Nat.reduceAdd,pP]
 refine oc0 [(0,0)] [] [0,0] none (spec:=hM 0 n) (hent:=sV) ?_
 apply aC
 refine (?_:gwp C none _ _ (sg _ _ _ []))
 repeat apply aA
 apply aB
 iterate 2 refine v0 ?_
 refine rb 5 true (h:=by (simp [hn])) ?_
 apply aC
 repeat apply aA
 refine cT ?_
 repeat apply aA
 apply aB
 refine v0 ?_
 refine s1 (hc:=xM.h {}) ?_
 apply aC
 repeat refine bZ ?_
 refine dU ?_
 refine fh0 [0,1] ?_
 rfl
theorem aBE (n:Int) (hn:n≠0) (c1 c2 c3 c4 c5:P) (n0:Nat) (l0:List P) (n6:Nat) (l6:List P):lB E 105 [.ref 0 0,.ref 1 0] (aG [(0,.cells [.p (.int .i64 0)] 0),(1,.cells [.own 2 n0,.p c1,.p c2,.p c3,.p c4,.p c5,.own 3 n6] 0),(2,.arr 24 2 l0 false),(3,.arr 81 3 l6 false)]) A (some (.iface 218 (.agg [.int .i64 n]))) (fun y=>y = .ok (.p (.tuple [])) (aG [(0,.cells [.p (.int .i64 n)] 0),(1,.cells [.nils,.p (.int .i64 0),.p (.int .i64 0),.p (.int .i64 0),.p (.int .i64 0),.p (.int .i64 0),.nils] 0),(2,.arr 24 2 l0 false),(3,.arr 81 3 l6 false)]) A):=by
 refine fZ Tryz.func105 (some _) (rfl:Tryz.f105.body=some _) rfl rfl rfl (by decide) (Nat.le_of_ble_eq_true rfl) (fun id h=>?_) (fun j id h=>?_) ?_
 ·exact kA h
 ·exact kB h
 intro C hN hL
 replace hN:C.N=8:=hN
 simp only [Gh.num,List.map_cons,List.map_nil,Nat.reduceAdd,pP]
 refine oc0 [(0,0)] [] [0,0] none (spec:=hM 0 n) (hent:=sV) ?_
 apply aC
 refine (?_:gwp C none _ _ (sg _ _ _ []))
 repeat apply aA
 apply aB
 iterate 2 refine v0 ?_
 refine rb 6 true (h:=by (simp [hn])) ?_
 apply aC
 repeat apply aA
 refine cT ?_
 repeat apply aA
 apply aB
 refine n1 120 false (hc:=xM.h {}) ?_
 apply aC
 repeat apply aA
 apply aB
 refine v0 ?_
 refine s1 (hc:=xM.h {}) ?_
 apply aC
 repeat refine bZ ?_
 refine dU ?_
 refine fh0 [0,1,2,3] ?_
 rfl
theorem aBF (n:Int) (hn:n≠0) (c0 c1:P) (n2:Nat) (l2:List P):lB E 116 [.ref 0 0,.ref 1 0] (aG [(0,.cells [.p (.int .i64 0)] 0),(1,.cells [.p c0,.p c1,.own 2 n2] 0),(2,.arr 84 9 l2 false)]) A (some (.iface 218 (.agg [.int .i64 n]))) (fun y=>y = .ok (.p (.tuple [])) (aG [(0,.cells [.p (.int .i64 n)] 0),(1,.cells [.p (.int .i64 0),.p (.int .i64 0),.nils] 0),(2,.arr 84 9 l2 false)]) A):=by
 refine fZ Tryz.func116 (some _) (rfl:Tryz.f116.body=some _) rfl rfl rfl (by decide) (Nat.le_of_ble_eq_true rfl) (fun id h=>?_) (fun j id h=>?_) ?_
 ·exact kA h
 ·exact kB h
 intro C hN hL
 replace hN:C.N=8:=hN
 simp only [Gh.num,List.map_cons,List.map_nil,Nat.reduceAdd,pP]
 refine oc0 [(0,0)] [] [0,0] none (spec:=hM 0 n) (hent:=sV) ?_
 apply aC
 refine (?_:gwp C none _ _ (sg _ _ _ []))
 repeat apply aA
 apply aB
 iterate 2 refine v0 ?_
 refine rb 6 true (h:=by (simp [hn])) ?_
 apply aC
 repeat apply aA
 refine cT ?_
 repeat apply aA
 apply aB
 refine n1 120 false (hc:=xM.h {}) ?_
 apply aC
 repeat apply aA
 apply aB
 refine v0 ?_
 refine s1 (hc:=xM.h {}) ?_
 apply aC
 repeat refine bZ ?_
 refine dU ?_
 refine fh0 [0,1,2] ?_
 rfl
theorem aBG (n:Int) (hn:n≠0) (c0 c1 c4:P) (n2:Nat) (l2:List P) (n3:Nat) (l3:List P):lB E 125 [.ref 0 0,.ref 1 0] (aG [(0,.cells [.p (.int .i64 0)] 0),(1,.cells [.p c0,.p c1,.own 2 n2,.own 3 n3,.p c4] 0),(2,.arr 126 2 l2 false),(3,.arr 86 3 l3 false)]) A (some (.iface 218 (.agg [.int .i64 n]))) (fun y=>y = .ok (.p (.tuple [])) (aG [(0,.cells [.p (.int .i64 n)] 0),(1,.cells [.p (.int .i64 0),.p (.int .i64 0),.nils,.nils,.p (.int .i64 0)] 0),(2,.arr 126 2 l2 false),(3,.arr 86 3 l3 false)]) A):=by
 refine fZ Tryz.func125 (some _) (rfl:Tryz.f125.body=some _) rfl rfl rfl (by decide) (Nat.le_of_ble_eq_true rfl) (fun id h=>?_) (fun j id h=>?_) ?_
 ·exact kA h
 ·exact kB h
 intro C hN hL
 replace hN:C.N=8:=hN
 simp only [Gh.num,List.map_cons,List.map_nil,Nat.reduceAdd,pP]
 refine oc0 [(0,0)] [] [0,0] none (spec:=hM 0 n) (hent:=sV) ?_
 apply aC
 refine (?_:gwp C none _ _ (sg _ _ _ []))
 repeat apply aA
 apply aB
 iterate 2 refine v0 ?_
 refine rb 6 true (h:=by (simp [hn])) ?_
 apply aC
 repeat apply aA
 refine cT ?_
 repeat apply aA
 apply aB
 refine n1 120 false (hc:=xM.h {}) ?_
 apply aC
 repeat apply aA
 apply aB
 refine v0 ?_
 refine s1 (hc:=xM.h {}) ?_
 apply aC
 repeat refine bZ ?_
 refine dU ?_
 refine fh0 [0,1,2,3] ?_
 rfl
theorem iQ (n:Int) (hn:n≠0) (c0 c1 c3:P) (n2:Nat) (l2:List P):lB E 73 [.ref 0 0,.ref 1 0] (aG [(0,.cells [.p (.int .i64 0)] 0),(1,.cells [.p c0,.p c1,.own 2 n2,.p c3] 0),(2,.arr 76 2 l2 false)]) A (some (.iface 218 (.agg [.int .i64 n]))) (fun y=>y = .ok (.p (.tuple [])) (aG [(0,.cells [.p (.int .i64 n)] 0),(1,.cells [.p (.int .i64 0),.p (.int .i64 0),.nils,.p (.int .i64 0)] 0),(2,.arr 76 2 l2 false)]) A):=by
 refine fZ Tryz.func73 (some _) (rfl:Tryz.f73.body=some _) rfl rfl rfl (by decide) (Nat.le_of_ble_eq_true rfl) (fun id h=>?_) (fun j id h=>?_) ?_
 ·exact kA h
 ·exact kB h
 intro C hN hL
 replace hN:C.N=7:=hN
 simp only [Gh.num,List.map_cons,List.map_nil,Nat.reduceAdd,pP]
 refine oc0 [(0,0)] [] [0,0] none (spec:=hM 0 n) (hent:=sV) ?_
 apply aC
 refine (?_:gwp C none _ _ (sg _ _ _ []))
 repeat apply aA
 apply aB
 iterate 2 refine v0 ?_
 refine rb 5 true (h:=by (simp [hn])) ?_
 apply aC
 repeat apply aA
 refine cT ?_
 repeat apply aA
 apply aB
 refine v0 ?_
 refine s1 (hc:=xM.h {}) ?_
 apply aC
 repeat refine bZ ?_
 refine dU ?_
 refine fh0 [0,1,2] ?_
 rfl
end
section
open Go.Gh
variable {E:Env Tryz.prog} {A:E.α}
structure aAp (c:Prop):Prop where
 h:c:=by (first|exact True.intro|omega|(simp only [inI];omega)|((repeat' apply And.intro)<;>(first|trivial|omega|(simp only [bV,List.length_cons];omega)|exact eQ _|exact eQ (_::_)|(simp only [inI];omega));done)|(have:=eQ;simp [P.size,bV,inI]<;>first|omega|exact this _|exact ⟨this _,by omega⟩|assumption|grind))
def Sch.z:Sch:=⟨(0,0),[],0⟩
def qR (m:Nat) (acc:List Ngt) (l:List UInt8):Option (List Ngt×List UInt8):=match jZ m l with
 |none=>none
 |some z=>some (acc++z.1,z.2)
def vF (m:Nat) (sp:List Spt) (l:List UInt8):Option (List Spt×List UInt8):=match iM m l with
 |none=>none
 |some z=>some (sp++z.1,z.2)
def aKh (m:Nat) (acc:List Ngt) (d:Int):Option (List Spt×List UInt8)→Option (List Ngt×List UInt8)
 |none=>none
 |some z=>qR m (acc++[⟨d,z.1⟩]) z.2
def aKi (v:Int×Int) (st:Int):Option (List Ngt×List UInt8)→Option (Sch×List UInt8)
 |none=>none
 |some y=>some (⟨v,y.1,st⟩,y.2)
theorem aLR (acc:List Ngt) (l:List UInt8):qR 0 acc l=some (acc,l):=by simp [qR,jZ]
theorem aLS (sp:List Spt) (l:List UInt8):vF 0 sp l=some (sp,l):=by simp [vF,iM]
theorem aKj {m:Nat} {acc:List Ngt} {l:List UInt8} (h:nI l=none):qR (m+1) acc l=none:=by simp [qR,jZ,yZ,h]
theorem aKk {m:Nat} {acc:List Ngt} {l:List UInt8} {d:Int} (h:nI l=some (d,[])):qR (m+1) acc l=none:=by simp [qR,jZ,yZ,h]
theorem aLT {m:Nat} {acc:List Ngt} {l r:List UInt8} {d:Int} {c:UInt8} (h:nI l=some (d,c::r)):qR (m+1) acc l=aKh m acc d (vF c.toNat [] r):=by
 simp only [qR,jZ,yZ,h,vF]
 cases iM c.toNat r with
 |none=>rfl
 |some z=>
  simp only [aKh,qR,List.nil_append]
  cases jZ m z.2 with
  |none=>rfl
  |some y=>simp
theorem aGP {m:Nat} {sp:List Spt} {l:List UInt8} (h:oU l=none):vF (m+1) sp l=none:=by simp [vF,iM,h]
theorem aLU {m:Nat} {sp:List Spt} {l r:List UInt8} {x:Spt} (h:oU l=some (x,r)):vF (m+1) sp l=vF m (sp++[x]) r:=by
 simp only [vF,iM,h]
 cases iM m r with
 |none=>rfl
 |some z=>simp
theorem aHX {l:List UInt8} (h:fU l=none):oU l=none:=by unfold oU;rw [h]
theorem aHY {l r:List UInt8} {e:Int×Int} (h:fU l=some (e,r)) (h2:fU r=none):oU l=none:=by unfold oU;rw [h];simp only;rw [h2]
theorem aKl {l r q:List UInt8} {e n:Int×Int} (h:fU l=some (e,r)) (h2:fU r=some (n,q)):oU l=some (⟨e,n⟩,q):=by unfold oU;rw [h];simp only;rw [h2]
def rdS (b:List UInt8):P:=match qP b with
 |some p=>.tuple [iA p,.int .i64 0]
 |none=>.tuple [iA Sch.z,.int .i64 8]
theorem xN {b:List UInt8} (h:eS (b.take (b.length - 2))=none):rdS b = .tuple [iA Sch.z,.int .i64 8]:=by unfold rdS qP;rw [h]
theorem aGQ {b:List UInt8} {z:Sch×List UInt8} (h:eS (b.take (b.length - 2))=some z) (h2:¬(z.2=[]∧z.1.valid=true∧oS z.1=b)):rdS b = .tuple [iA Sch.z,.int .i64 8]:=by
 unfold rdS qP
 rw [h]
 simp only
 rw [if_neg h2]
theorem aPc {b:List UInt8} {s:Sch} (h:eS (b.take (b.length - 2))=some (s,[])) (h1:s.valid=true) (h2:oS s=b):rdS b = .tuple [iA s,.int .i64 0]:=by
 unfold rdS qP
 rw [h]
 simp only
 rw [if_pos ⟨trivial,h1,h2⟩]
theorem aGR (n:Nat):((List.range n).map fun i=>([.p (.int .u8 0)]:List G).getD (i%1) .undef)=(List.replicate n (P.int .u8 0)).map .p:=by
 apply List.ext_getElem
 ·simp
 intro i h1 h2
 simp [Nat.mod_one]
theorem aBH (n:Nat) (ps:List P) (h:ps.length=n):splice ((List.replicate n (P.int .u8 0)).map .p) 0 (ps.map .p)=ps.map .p:=by
 unfold splice
 rw [List.take_zero,List.nil_append,Nat.zero_add,List.length_map,h,List.drop_of_length_le (by simp),List.append_nil]
theorem aEQ (b:List UInt8) (n:Nat):(u8s b).take n=u8s (b.take n):=by unfold u8s;rw [List.map_take]
theorem uM (b:List UInt8):∀p∈u8s b,p.one=true:=by intro x hx;obtain ⟨c,_,rfl⟩:=List.mem_map.1 hx;rfl
theorem aMj:aJ Tryz.prog 30:=aJ.mk Tryz.func30 (by kernel_rfl) rfl
theorem aHZ (b:List UInt8) (h:4096<b.length):Gh.bD E 30 [.p (.list (u8s b))] (aG []) A (fun y=>y = .ok (.p (.tuple [iA Sch.z,.int .i64 3])) (aG []) A):=by
 refine wV Tryz.func30 (rfl:Tryz.f30.body=some _) (Nat.le_of_ble_eq_true rfl) (fun id h=>?_) (fun j id h=>?_) ?_
 ·exact kA h
 ·exact kB h
 intro C hN hL
 replace hN:C.N=98:=hN
 simp only [Gh.num,List.map_cons,List.map_nil,Nat.reduceAdd]
 have hul:∀l:List UInt8,(u8s l).length=l.length:=bV
 repeat apply aA
 apply aB
 refine n1 120 false (hc:=aAp.h {}) ?_
 refine n1 130 false (hc:=aAp.h {}) ?_
 apply aC
 refine cl [0,2,3] ?_
 repeat apply aA
 apply aB
 refine v0 ?_
 refine df0 ?_
 apply aC
 refine cl [0,2,3] ?_
 repeat apply aA
 refine ad 120 2 3000 76 2 false ?_
 apply aB
 iterate 3 refine v0 ?_
 refine rb 15 false (h:=by (first|with_reducible rfl|exact decide_eq_false (by omega)|rfl|decide)) ?_
 refine pp0 (spec:=cX _) (hent:=bX) ?_
 repeat (first|refine aO ?_|refine aN ?_|refine aW ?_)
 refine bM ?_
 try refine om (h3:=by simp [bO,dA,G.idl,G.idls,cA,aF,aI]) ?_
 refine eJ [130,120,3000] [(0,130),(1,120),(2,3000)] (spec:=iQ 3 (by omega) (.int .i64 0) (.int .i64 0) (.int .i64 0) 0 ([])) (hent:=lG) ?_
 refine cM ?_
 refine fp2 ?_
 rfl
theorem aH0 (b:List UInt8) (h:b.length<2):Gh.bD E 30 [.p (.list (u8s b))] (aG []) A (fun y=>y = .ok (.p (.tuple [iA Sch.z,.int .i64 11])) (aG []) A):=by
 refine wV Tryz.func30 (rfl:Tryz.f30.body=some _) (Nat.le_of_ble_eq_true rfl) (fun id h=>?_) (fun j id h=>?_) ?_
 ·exact kA h
 ·exact kB h
 intro C hN hL
 replace hN:C.N=98:=hN
 simp only [Gh.num,List.map_cons,List.map_nil,Nat.reduceAdd]
 have hul:∀l:List UInt8,(u8s l).length=l.length:=bV
 repeat apply aA
 apply aB
 refine n1 120 false (hc:=aAp.h {}) ?_
 refine n1 130 false (hc:=aAp.h {}) ?_
 apply aC
 refine cl [0,2,3] ?_
 repeat apply aA
 apply aB
 refine v0 ?_
 refine df0 ?_
 apply aC
 refine cl [0,2,3] ?_
 repeat apply aA
 refine ad 120 2 3000 76 2 false ?_
 apply aB
 iterate 3 refine v0 ?_
 refine rb 15 true (h:=by (first|with_reducible rfl|exact decide_eq_true (by omega)|rfl|decide)) ?_
 refine pc0 (spec:=bH _) (hent:=bX) ?_
 apply aC
 refine cl [0,2,3] ?_
 repeat apply aA
 apply aB
 iterate 3 refine v0 ?_
 refine rb 19 false (h:=by (first|with_reducible rfl|exact decide_eq_false (by omega)|rfl|decide)) ?_
 refine pp0 (spec:=cX _) (hent:=bX) ?_
 repeat (first|refine aO ?_|refine aN ?_|refine aW ?_)
 refine bM ?_
 try refine om (h3:=by simp [bO,dA,G.idl,G.idls,cA,aF,aI]) ?_
 refine eJ [130,120,3000] [(0,130),(1,120),(2,3000)] (spec:=iQ 11 (by omega) (.int .i64 0) (.int .i64 0) (.int .i64 0) 0 ([])) (hent:=lG) ?_
 refine cM ?_
 refine fp2 ?_
 rfl
theorem aH1 (b:List UInt8) (h:b.length≤4096) (h2:2≤b.length) (hs:yY (b.take (b.length - 2))≠b):Gh.bD E 30 [.p (.list (u8s b))] (aG []) A (fun y=>y = .ok (.p (.tuple [iA Sch.z,.int .i64 11])) (aG []) A):=by
 refine wV Tryz.func30 (rfl:Tryz.f30.body=some _) (Nat.le_of_ble_eq_true rfl) (fun id h=>?_) (fun j id h=>?_) ?_
 ·exact kA h
 ·exact kB h
 intro C hN hL
 replace hN:C.N=98:=hN
 simp only [Gh.num,List.map_cons,List.map_nil,Nat.reduceAdd]
 have hul:∀l:List UInt8,(u8s l).length=l.length:=bV
 have hol:(b.take (b.length - 2)).length=b.length - 2:=by rw [List.length_take];omega
 have hn2:((b.length:Int) - 2).toNat=b.length - 2:=by omega
 repeat apply aA
 apply aB
 refine n1 120 false (hc:=aAp.h {}) ?_
 refine n1 130 false (hc:=aAp.h {}) ?_
 apply aC
 refine cl [0,2,3] ?_
 repeat apply aA
 apply aB
 refine v0 ?_
 refine df0 ?_
 apply aC
 refine cl [0,2,3] ?_
 repeat apply aA
 refine ad 120 2 3000 76 2 false ?_
 apply aB
 iterate 3 refine v0 ?_
 refine rb 15 true (h:=by (first|with_reducible rfl|exact decide_eq_true (by omega)|rfl|decide)) ?_
 refine pc0 (spec:=bH _) (hent:=bX) ?_
 apply aC
 refine cl [0,2,3] ?_
 repeat apply aA
 apply aB
 iterate 3 refine v0 ?_
 refine rb 19 true (h:=by (first|with_reducible rfl|exact decide_eq_true (by omega)|rfl|decide)) ?_
 refine pc0 (spec:=bH _) (hent:=bX) ?_
 apply aC
 refine cl [0,2,3] ?_
 repeat apply aA
 apply aB
 iterate 2 refine v0 ?_
 refine v1 (hc:=aAp.h {}) ?_
 refine n1 340 false (hc:=aAp.h {}) ?_
 rw [aGR]
 refine n1 140 false (hc:=aAp.h {}) ?_
 refine s1 (hc:=aAp.h {}) ?_
 apply aC
 refine cl [0,2,3,4] ?_
 repeat apply aA
 apply aB
 iterate 2 refine v0 ?_
 refine cp2 (ps:=u8s (b.take (b.length - 2))) (hps:=aEQ b _) (hfit:=by (simp [bV]<;>omega)) (h0:=uM b) ?_
 rw [aBH (b.length - 2) (u8s (b.take (b.length - 2))) (by rw [bV,hol])]
 refine ofk 340 (b.length - 2) (hn2:=by (rw [List.length_map,bV,hol];exact Nat.le_refl _)) (h1:=by (rw [List.take_of_length_le (by rw [List.length_map,bV,hol];exact Nat.le_refl _)];simp [bG];exact uM _)) ?_
 apply aC
 refine cl [0,2,3,4] ?_
 repeat apply aA
 refine aGu (i1:=140) (o1:=0) (id:=340) (off:=0) (len:=b.length - 2) (ps:=u8s (b.take (b.length - 2))) (by (simp only [aF,aI,Nat.reduceEqDiff,reduceIte]<;>rfl)) (by rfl) (by (simp only [aF,aI,Nat.reduceEqDiff,reduceIte]<;>rfl)) (by omega) (by (rw [List.drop_zero,List.take_of_length_le (by rw [List.length_map,bV,hol];exact Nat.le_refl _)])) (by rw [bV,hol]) (uM _) (by simp only [List.set_cons_zero]<;>rfl) ?_
 apply aB
 refine v0 ?_
 refine oc0 [(5000,3500)] [] [0] none (spec:=aGN (b.take (b.length - 2)) (by omega)) (hent:=aMi) ?_
 refine v0 ?_
 refine n1 150 false (hc:=aAp.h {}) ?_
 refine s1 (hc:=aAp.h {}) ?_
 apply aC
 refine cl [0,2,3,4,5] ?_
 repeat apply aA
 apply aB
 refine oc0 [(0,150),(1,3500)] [] [0] none (spec:=aAx (b.take (b.length - 2)) (by omega)) (hent:=aGK) ?_
 apply aC
 refine cl [0,2,3,4,5] ?_
 repeat apply aA
 refine pR 3500 (by (simp only [aF,aI,Nat.reduceEqDiff,reduceIte]<;>rfl)) ?_
 refine nH 150 0 .p (by (simp only [aF,aI,Nat.reduceEqDiff,reduceIte]<;>rfl)) (by rfl) (by simp only [cvS,toP,aF,aI,Nat.reduceEqDiff,reduceIte]<;>rfl) (by rw [bV]) rfl (by simp only [List.set_cons_zero]<;>rfl) ?_
 apply aB
 iterate 3 refine v0 ?_
 refine pc0 (spec:=aAz (yY (b.take (b.length - 2))) b (by rw [aAy];omega)) (hent:=aGM) ?_
 refine rb 35 false (h:=by (exact decide_eq_false hs)) ?_
 refine pp0 (spec:=cX _) (hent:=bX) ?_
 repeat (first|refine aO ?_|refine aN ?_|refine aW ?_)
 refine bM ?_
 try refine om (h3:=by simp [bO,dA,G.idl,G.idls,cA,aF,aI]) ?_
 refine eJ [130,120,3000] [(0,130),(1,120),(2,3000)] (spec:=iQ 11 (by omega) (.int .i64 0) (.int .i64 0) (.int .i64 0) 0 ([])) (hent:=lG) ?_
 refine cM ?_
 refine fp2 ?_
 rfl
theorem aFY (o:List UInt8):(o=[]∧eS o=none)∨(∃c l,o=c::l∧c≠83∧eS o=none)∨(∃l,o=83::l∧fU l=none∧eS o=none)∨(∃l v,o=83::l∧fU l=some (v,[])∧eS o=none) ∨
  (∃l v st,o=83::l∧fU l=some (v,[st])∧eS o=none)∨(∃l v st nb q,o=83::l∧fU l=some (v,st::nb::q)∧eS o=aKi v (st.toNat:Nat) (qR nb.toNat [] q)):=by
 match o with
 |[]=>exact .inl ⟨rfl,rfl⟩
 |c::l=>
  by_cases hc:c=83
  ·subst hc
   cases e:fU l with
   |none=>exact .inr (.inr (.inl ⟨l,rfl,e,by simp [eS,e]⟩))
   |some z=>
    obtain ⟨v,r⟩:=z
    match r with
    |[]=>exact .inr (.inr (.inr (.inl ⟨l,v,rfl,e,by simp [eS,e]⟩)))
    |[st]=>exact .inr (.inr (.inr (.inr (.inl ⟨l,v,st,rfl,e,by simp [eS,e]⟩))))
    |st::nb::q=>
     refine .inr (.inr (.inr (.inr (.inr ⟨l,v,st,nb,q,rfl,e,?_⟩))))
     simp only [eS,if_true,e,qR,List.nil_append]
     cases jZ nb.toNat q<;>rfl
  exact .inr (.inl ⟨c,l,rfl,hc,by simp [eS,hc]⟩)
theorem aH2 (l:List UInt8):nI l=none∨(∃d,nI l=some (d,[]))∨∃d c r,nI l=some (d,c::r):=by
 cases e:nI l with
 |none=>exact .inl rfl
 |some z=>
  obtain ⟨d,r⟩:=z
  cases r with
  |nil=>exact .inr (.inl ⟨d,rfl⟩)
  |cons c r=>exact .inr (.inr ⟨d,c,r,rfl⟩)
theorem aH3 (l:List UInt8):fU l=none∨(∃e r,fU l=some (e,r)∧fU r=none)∨∃e r n q,fU l=some (e,r)∧fU r=some (n,q):=by
 cases e:fU l with
 |none=>exact .inl rfl
 |some z=>
  obtain ⟨d,r⟩:=z
  cases e2:fU r with
  |none=>exact .inr (.inl ⟨d,r,rfl,e2⟩)
  |some y=>exact .inr (.inr ⟨d,r,y.1,y.2,rfl,e2⟩)
end
section
open Go.Gh
variable {E:Env Tryz.prog} {A:E.α}
structure jK (c:Prop):Prop where
 h:c:=by (first|exact True.intro|omega|(simp only [inI];omega)|((repeat' apply And.intro)<;>(first|trivial|omega|(simp only [bV,List.length_cons];omega)|exact eQ _|exact eQ (_::_)|(simp only [inI];omega));done)|(have:=eQ;simp [P.size,bV,inI]<;>first|omega|exact this _|exact ⟨this _,by omega⟩|assumption|grind))
theorem aCG (b:List UInt8) (h:b.length≤4096) (h2:2≤b.length) (hs:yY (b.take (b.length - 2))=b):Gh.bD E 30 [.p (.list (u8s b))] (aG []) A (fun y=>y = .ok (.p (rdS b)) (aG []) A):=by
 refine wV Tryz.func30 (rfl:Tryz.f30.body=some _) (Nat.le_of_ble_eq_true rfl) (fun id h=>?_) (fun j id h=>?_) ?_
 ·exact kA h
 ·exact kB h
 intro C hN hL
 replace hN:C.N=98:=hN
 simp only [Gh.num,List.map_cons,List.map_nil,Nat.reduceAdd]
 have hul:∀l:List UInt8,(u8s l).length=l.length:=bV
 have hol:(b.take (b.length - 2)).length=b.length - 2:=by rw [List.length_take];omega
 have hn2:((b.length:Int) - 2).toNat=b.length - 2:=by omega
 repeat apply aA
 apply aB
 refine n1 120 false (hc:=jK.h {}) ?_
 refine n1 130 false (hc:=jK.h {}) ?_
 apply aC
 refine cl [0,2,3] ?_
 repeat apply aA
 apply aB
 refine v0 ?_
 refine df0 ?_
 apply aC
 refine cl [0,2,3] ?_
 repeat apply aA
 refine ad 120 2 3000 76 2 false ?_
 apply aB
 iterate 3 refine v0 ?_
 refine rb 15 true (h:=by (first|with_reducible rfl|exact decide_eq_true (by omega)|rfl|decide)) ?_
 refine pc0 (spec:=bH _) (hent:=bX) ?_
 apply aC
 refine cl [0,2,3] ?_
 repeat apply aA
 apply aB
 iterate 3 refine v0 ?_
 refine rb 19 true (h:=by (first|with_reducible rfl|exact decide_eq_true (by omega)|rfl|decide)) ?_
 refine pc0 (spec:=bH _) (hent:=bX) ?_
 apply aC
 refine cl [0,2,3] ?_
 repeat apply aA
 apply aB
 iterate 2 refine v0 ?_
 refine v1 (hc:=jK.h {}) ?_
 refine n1 340 false (hc:=jK.h {}) ?_
 rw [aGR]
 refine n1 140 false (hc:=jK.h {}) ?_
 refine s1 (hc:=jK.h {}) ?_
 apply aC
 refine cl [0,2,3,4] ?_
 repeat apply aA
 apply aB
 iterate 2 refine v0 ?_
 refine cp2 (ps:=u8s (b.take (b.length - 2))) (hps:=aEQ b _) (hfit:=by (simp [bV]<;>omega)) (h0:=uM b) ?_
 rw [aBH (b.length - 2) (u8s (b.take (b.length - 2))) (by rw [bV,hol])]
 refine ofk 340 (b.length - 2) (hn2:=by (rw [List.length_map,bV,hol];exact Nat.le_refl _)) (h1:=by (rw [List.take_of_length_le (by rw [List.length_map,bV,hol];exact Nat.le_refl _)];simp [bG];exact uM _)) ?_
 apply aC
 refine cl [0,2,3,4] ?_
 repeat apply aA
 refine aGu (i1:=140) (o1:=0) (id:=340) (off:=0) (len:=b.length - 2) (ps:=u8s (b.take (b.length - 2))) (by (simp only [aF,aI,Nat.reduceEqDiff,reduceIte]<;>rfl)) (by rfl) (by (simp only [aF,aI,Nat.reduceEqDiff,reduceIte]<;>rfl)) (by omega) (by (rw [List.drop_zero,List.take_of_length_le (by rw [List.length_map,bV,hol];exact Nat.le_refl _)])) (by rw [bV,hol]) (uM _) (by simp only [List.set_cons_zero]<;>rfl) ?_
 apply aB
 refine v0 ?_
 refine oc0 [(5000,3500)] [] [0] none (spec:=aGN (b.take (b.length - 2)) (by omega)) (hent:=aMi) ?_
 refine v0 ?_
 refine n1 150 false (hc:=jK.h {}) ?_
 refine s1 (hc:=jK.h {}) ?_
 apply aC
 refine cl [0,2,3,4,5] ?_
 repeat apply aA
 apply aB
 refine oc0 [(0,150),(1,3500)] [] [0] none (spec:=aAx (b.take (b.length - 2)) (by omega)) (hent:=aGK) ?_
 apply aC
 refine cl [0,2,3,4,5] ?_
 repeat apply aA
 refine pR 3500 (by (simp only [aF,aI,Nat.reduceEqDiff,reduceIte]<;>rfl)) ?_
 refine nH 150 0 .p (by (simp only [aF,aI,Nat.reduceEqDiff,reduceIte]<;>rfl)) (by rfl) (by simp only [cvS,toP,aF,aI,Nat.reduceEqDiff,reduceIte]<;>rfl) (by rw [bV]) rfl (by simp only [List.set_cons_zero]<;>rfl) ?_
 apply aB
 iterate 3 refine v0 ?_
 refine pc0 (spec:=aAz (yY (b.take (b.length - 2))) b (by rw [aAy];omega)) (hent:=aGM) ?_
 refine rb 35 true (h:=by (exact decide_eq_true hs)) ?_
 refine pc0 (spec:=bH _) (hent:=bX) ?_
 apply aC
 refine cl [0,2,3,4] ?_
 repeat apply aA
 apply aB
 refine v0 ?_
 refine n1 160 false (hc:=jK.h {}) ?_
 refine s1 (hc:=jK.h {}) ?_
 apply aC
 refine cl [0,2,3,4,6] ?_
 repeat apply aA
 refine fz 160 1 [.k] ?_
 apply aB
 refine v0 ?_
 refine ocv 38 (.f [.n [.k]]) (k:=?_)
 refine n1 170 false (hc:=jK.h {}) ?_
 refine s1 (hc:=jK.h {}) ?_
 apply aC
 refine cl [0,2,3,4,6,7] ?_
 repeat apply aA
 refine fz 170 1 [.k] ?_
 apply aB
 refine v0 ?_
 refine ocv 39 (.f [.n [.k]]) (k:=?_)
 refine v0 ?_
 apply aC
 refine cl [0,2,3,4,6,7,8] ?_
 repeat apply aA
 rcases aFY (b.take (b.length - 2)) with ⟨ho,hnone⟩|⟨c,l,ho,hc,hnone⟩|⟨l,ho,hsp,hnone⟩|⟨l,v,ho,hsp,hnone⟩|⟨l,v,st,ho,hsp,hnone⟩|⟨l,v,st,nb,q,ho,hsp,hP0⟩
 ·rw [ho]
  repeat apply aA
  apply aB
  refine v0 ?_
  refine op0 [(0,140)] [] [0] none (spec:=aBD) (hent:=nG) ?_
  repeat (first|refine aO ?_|refine aN ?_|refine aW ?_)
  refine bM ?_
  try refine om (h3:=by simp [bO,dA,G.idl,G.idls,cA,aF,aI]) ?_
  refine eJ [130,120,3000] [(0,130),(1,120),(2,3000)] (spec:=iQ 8 (by omega) (.int .i64 0) (.int .i64 0) (.int .i64 0) 0 ([])) (hent:=lG) ?_
  refine cM ?_
  refine fp2 ?_
  rw [xN hnone]
  rfl
 ·rw [ho]
  repeat apply aA
  apply aB
  refine v0 ?_
  refine oc0 [(0,140)] [] [0] none (spec:=oV c l) (hent:=nG) ?_
  refine v0 ?_
  refine rb 42 false (h:=by (exact decide_eq_false (fun e=>hc (UInt8.toNat_inj.1 (by have h3:(c.toNat:Int)=83:=e;show c.toNat=83;omega))))) ?_
  refine pp0 (spec:=cX _) (hent:=bX) ?_
  repeat (first|refine aO ?_|refine aN ?_|refine aW ?_)
  refine bM ?_
  try refine om (h3:=by simp [bO,dA,G.idl,G.idls,cA,aF,aI]) ?_
  refine eJ [130,120,3000] [(0,130),(1,120),(2,3000)] (spec:=iQ 8 (by omega) (.int .i64 0) (.int .i64 0) (.int .i64 0) 0 ([])) (hent:=lG) ?_
  refine cM ?_
  refine fp2 ?_
  rw [xN hnone]
  rfl
 ·rw [ho]
  repeat apply aA
  apply aB
  refine v0 ?_
  refine oc0 [(0,140)] [] [0] none (spec:=oV 83 l) (hent:=nG) ?_
  refine v0 ?_
  refine rb 42 true (h:=by (first|rfl|decide)) ?_
  refine pc0 (spec:=bH _) (hent:=bX) ?_
  apply aC
  refine cl [0,2,3,4,6,7,8] ?_
  repeat apply aA
  refine rd ?_
  refine da0 0 ?_
  refine psS 1 ?_
  refine psv 2 ?_
  refine psd 3 ?_
  refine psd 4 ?_
  refine psd 5 ?_
  refine psd 6 ?_
  refine psd 7 ?_
  refine pse 1 [0,1,0,7,3,31,63,127] [2,3,44] ?_
  refine dpe [(0,140)] [] [0] none (spec:=aFX l hsp) (hent:=xL) ?_
  repeat (first|refine aO ?_|refine aN ?_|refine aW ?_)
  refine bM ?_
  try refine om (h3:=by simp [bO,dA,G.idl,G.idls,cA,aF,aI]) ?_
  refine eJ [130,120,3000] [(0,130),(1,120),(2,3000)] (spec:=iQ 8 (by omega) (.int .i64 0) (.int .i64 0) (.int .i64 0) 0 ([])) (hent:=lG) ?_
  refine cM ?_
  refine fp2 ?_
  rw [xN hnone]
  rfl
 ·rw [ho]
  repeat apply aA
  apply aB
  refine v0 ?_
  refine oc0 [(0,140)] [] [0] none (spec:=oV 83 l) (hent:=nG) ?_
  refine v0 ?_
  refine rb 42 true (h:=by (first|rfl|decide)) ?_
  refine pc0 (spec:=bH _) (hent:=bX) ?_
  apply aC
  refine cl [0,2,3,4,6,7,8] ?_
  repeat apply aA
  refine rd ?_
  refine da0 0 ?_
  refine dW 1 [(0,140)] [] [0] none (spec:=zA l v [] hsp) (hent:=xL) ?_
  refine d0 2 ?_
  refine psS 3 ?_
  refine psa 4 ?_
  refine psd 5 ?_
  refine psd 6 ?_
  refine psd 7 ?_
  refine pse 3 [0,1,0,7,3,31,63,127] [2,3,46] ?_
  refine dpe [(0,140)] [] [0] none (spec:=aBD) (hent:=nG) ?_
  repeat (first|refine aO ?_|refine aN ?_|refine aW ?_)
  refine bM ?_
  try refine om (h3:=by simp [bO,dA,G.idl,G.idls,cA,aF,aI]) ?_
  refine eJ [130,120,3000] [(0,130),(1,120),(2,3000)] (spec:=iQ 8 (by omega) (.int .i64 0) (.int .i64 0) (.int .i64 0) 0 ([])) (hent:=lG) ?_
  refine cM ?_
  refine fp2 ?_
  rw [xN hnone]
  rfl
 ·rw [ho]
  repeat apply aA
  apply aB
  refine v0 ?_
  refine oc0 [(0,140)] [] [0] none (spec:=oV 83 l) (hent:=nG) ?_
  refine v0 ?_
  refine rb 42 true (h:=by (first|rfl|decide)) ?_
  refine pc0 (spec:=bH _) (hent:=bX) ?_
  apply aC
  refine cl [0,2,3,4,6,7,8] ?_
  repeat apply aA
  refine rd ?_
  refine da0 0 ?_
  refine dW 1 [(0,140)] [] [0] none (spec:=zA l v [st] hsp) (hent:=xL) ?_
  refine d0 2 ?_
  refine dW 3 [(0,140)] [] [0] none (spec:=oV st []) (hent:=nG) ?_
  refine da0 4 ?_
  refine ds1 5 (hc:=jK.h {}) ?_
  refine da0 6 ?_
  refine ds1 7 (hc:=jK.h {}) ?_
  refine dz 8 [0,1,0,7,3,31,63,127] ?_
  refine de 8 ?_
  refine cl [0,2,3,4,6,7,8] ?_
  repeat apply aA
  apply aB
  refine v0 ?_
  refine op0 [(0,140)] [] [0] none (spec:=aBD) (hent:=nG) ?_
  repeat (first|refine aO ?_|refine aN ?_|refine aW ?_)
  refine bM ?_
  try refine om (h3:=by simp [bO,dA,G.idl,G.idls,cA,aF,aI]) ?_
  refine eJ [130,120,3000] [(0,130),(1,120),(2,3000)] (spec:=iQ 8 (by omega) (.int .i64 v.1) (.int .i64 v.2) (.int .i64 (st.toNat:Nat)) 0 ([])) (hent:=lG) ?_
  refine cM ?_
  refine fp2 ?_
  rw [xN hnone]
  rfl
 rw [ho]
 have hnb:=UInt8.toNat_lt nb
 have hst8:=UInt8.toNat_lt st
 repeat apply aA
 apply aB
 refine v0 ?_
 refine oc0 [(0,140)] [] [0] none (spec:=oV 83 l) (hent:=nG) ?_
 refine v0 ?_
 refine rb 42 true (h:=by (first|rfl|decide)) ?_
 refine pc0 (spec:=bH _) (hent:=bX) ?_
 apply aC
 refine cl [0,2,3,4,6,7,8] ?_
 repeat apply aA
 refine rd ?_
 refine da0 0 ?_
 refine dW 1 [(0,140)] [] [0] none (spec:=zA l v (st::nb::q) hsp) (hent:=xL) ?_
 refine d0 2 ?_
 refine dW 3 [(0,140)] [] [0] none (spec:=oV st (nb::q)) (hent:=nG) ?_
 refine da0 4 ?_
 refine ds1 5 (hc:=jK.h {}) ?_
 refine da0 6 ?_
 refine ds1 7 (hc:=jK.h {}) ?_
 refine dz 8 [0,1,0,7,3,31,63,127] ?_
 refine de 8 ?_
 refine cl [0,2,3,4,6,7,8] ?_
 repeat apply aA
 apply aB
 refine v0 ?_
 refine oc0 [(0,140)] [] [0] none (spec:=oV nb q) (hent:=nG) ?_
 refine v0 ?_
 apply aC
 refine cl [0,2,3,4,6,7,8,51,52] ?_
 repeat apply aA
 refine aP ?_
 repeat apply aA
 refine cJ (fun mz σ=>∃(k:Nat) (acc:List Ngt) (l:List UInt8),(k≤nb.toNat)∧(acc.length≤k)∧(∀x∈acc,x.sp.length≤255)∧(eS (b.take (b.length - 2))=aKi v (st.toNat:Nat) (qR (nb.toNat - k) acc l))∧mz=nb.toNat - k∧σ=(sg [(0,.p (.list (u8s b))),(2,.ref 120 0),(3,.ref 130 0),(4,.ref 140 0),(6,.ref 160 0),(7,.ref 170 0),(8,.fn (.func 80) [] [.ptr [.fn (.func 79) [] [.ptr [.fn (.func 78) [] [.ref 140 0]]]]]),(51,.p (.int .i64 (nb.toNat:Nat))),(52,.p (.int .i64 (k:Nat)))] [(120,.cells [.p (.int .i64 v.1),.p (.int .i64 v.2),.own 3000 acc.length,.p (.int .i64 (st.toNat:Nat))] 0),(130,.cells [.p (.int .i64 0)] 0),(140,.cells [.p (.list (u8s l))] 0),(160,.cells [.fn (.func 78) [] [.ref 140 0]] 1),(170,.cells [.fn (.func 79) [] [.ptr [.fn (.func 78) [] [.ref 140 0]]]] 1),(3000,.arr 76 2 (acc.map iY) false)] A [.call 73 [] [.ref 130 0,.ref 120 0]]:Sg E)) ?_ (fun mz σ hI=>?_)
 ·refine gA [0,2,3,4,6,7,8,51,52] ?_
  exact ⟨_,0,[],q,by omega,by simp,by simp,hP0,rfl,sgE rfl (by simp)⟩
 obtain ⟨k,acc,l,hk,hal,has,hP,hnn,rfl⟩:=hI
 repeat apply aA
 apply aB
 refine v0 ?_
 apply aC
 repeat apply aA
 refine cB (k1:=fun hb1=>?_) (k0:=fun hb1=>?_)
 ·replace hb1:=hB.h {} hb1
  repeat apply aA
  refine aQ ?_
  refine cl [0,2,3,4,6,7,8,51,52] ?_
  repeat apply aA
  refine aP ?_
  repeat apply aA
  rcases aH2 l with hn|⟨d,hn⟩|⟨d,c,r,hn⟩
  ·have hnone:eS (b.take (b.length - 2))=none:=by rw [hP,show nb.toNat - k=(nb.toNat - (k+1))+1 by omega,aKj hn];rfl
   repeat apply aA
   apply aB
   refine v0 ?_
   refine op0 [(0,140)] [] [0] none (spec:=aKf l hn) (hent:=zY) ?_
   repeat (first|refine aO ?_|refine aN ?_|refine aW ?_)
   refine bM ?_
   try refine om (h3:=by simp [bO,dA,G.idl,G.idls,cA,aF,aI]) ?_
   refine eJ [130,120,3000] [(0,130),(1,120),(2,3000)] (spec:=iQ 8 (by omega) (.int .i64 v.1) (.int .i64 v.2) (.int .i64 (st.toNat:Nat)) acc.length ((acc.map iY))) (hent:=lG) ?_
   refine cM ?_
   refine fp2 ?_
   rw [xN hnone]
   rfl
  ·have hnone:eS (b.take (b.length - 2))=none:=by rw [hP,show nb.toNat - k=(nb.toNat - (k+1))+1 by omega,aKk hn];rfl
   repeat apply aA
   apply aB
   refine v0 ?_
   refine oc0 [(0,140)] [] [0] none (spec:=aEM l d [] hn) (hent:=zY) ?_
   refine v0 ?_
   refine n1 190 false (hc:=jK.h {}) ?_
   refine s1 (hc:=jK.h {}) ?_
   apply aC
   refine cl [0,2,3,4,6,7,8,9,51,52] ?_
   repeat apply aA
   refine ad 190 1 3010 79 4 false ?_
   apply aB
   refine v0 ?_
   refine op0 [(0,140)] [] [0] none (spec:=aBD) (hent:=nG) ?_
   repeat (first|refine aO ?_|refine aN ?_|refine aW ?_)
   refine bM ?_
   try refine om (h3:=by simp [bO,dA,G.idl,G.idls,cA,aF,aI]) ?_
   refine eJ [130,120,3000] [(0,130),(1,120),(2,3000)] (spec:=iQ 8 (by omega) (.int .i64 v.1) (.int .i64 v.2) (.int .i64 (st.toNat:Nat)) acc.length ((acc.map iY))) (hent:=lG) ?_
   refine cM ?_
   refine fp2 ?_
   rw [xN hnone]
   rfl
  have hc8:=UInt8.toNat_lt c
  repeat apply aA
  apply aB
  refine v0 ?_
  refine oc0 [(0,140)] [] [0] none (spec:=aEM l d (c::r) hn) (hent:=zY) ?_
  refine v0 ?_
  refine n1 190 false (hc:=jK.h {}) ?_
  refine s1 (hc:=jK.h {}) ?_
  apply aC
  refine cl [0,2,3,4,6,7,8,9,51,52] ?_
  repeat apply aA
  refine ad 190 1 3010 79 4 false ?_
  apply aB
  refine v0 ?_
  refine oc0 [(0,140)] [] [0] none (spec:=oV c r) (hent:=nG) ?_
  refine v0 ?_
  apply aC
  refine cl [0,2,3,4,6,7,8,9,51,52,58,59] ?_
  repeat apply aA
  refine aP ?_
  repeat apply aA
  refine cJ (fun mz σ=>∃(j:Nat) (sp:List Spt) (l2:List UInt8),(j≤c.toNat)∧(sp.length≤j)∧(eS (b.take (b.length - 2))=aKi v (st.toNat:Nat) (aKh (nb.toNat - (k+1)) acc d (vF (c.toNat - j) sp l2)))∧mz=c.toNat - j∧σ=(sg [(0,.p (.list (u8s b))),(2,.ref 120 0),(3,.ref 130 0),(4,.ref 140 0),(6,.ref 160 0),(7,.ref 170 0),(8,.fn (.func 80) [] [.ptr [.fn (.func 79) [] [.ptr [.fn (.func 78) [] [.ref 140 0]]]]]),(9,.ref 190 0),(51,.p (.int .i64 (nb.toNat:Nat))),(52,.p (.int .i64 (k:Nat))),(58,.p (.int .i64 (c.toNat:Nat))),(59,.p (.int .i64 (j:Nat)))] [(120,.cells [.p (.int .i64 v.1),.p (.int .i64 v.2),.own 3000 acc.length,.p (.int .i64 (st.toNat:Nat))] 0),(130,.cells [.p (.int .i64 0)] 0),(140,.cells [.p (.list (u8s l2))] 0),(160,.cells [.fn (.func 78) [] [.ref 140 0]] 1),(170,.cells [.fn (.func 79) [] [.ptr [.fn (.func 78) [] [.ref 140 0]]]] 1),(190,.cells [.p (.int .i64 d),.own 3010 sp.length] 0),(3000,.arr 76 2 (acc.map iY) false),(3010,.arr 79 4 (sp.map pV) false)] A [.call 73 [] [.ref 130 0,.ref 120 0]]:Sg E)) ?_ (fun mz σ hI=>?_)
  ·refine gA [0,2,3,4,6,7,8,9,51,52,58,59] ?_
   exact ⟨_,0,[],r,by omega,by simp,by rw [hP,show nb.toNat - k=(nb.toNat - (k+1))+1 by omega,aLT hn,Nat.sub_zero],rfl,sgE rfl (by simp)⟩
  obtain ⟨j,sp,l2,hj,hsl,hP2,hnj,rfl⟩:=hI
  repeat apply aA
  apply aB
  refine v0 ?_
  apply aC
  repeat apply aA
  refine cB (k1:=fun hb2=>?_) (k0:=fun hb2=>?_)
  ·replace hb2:=hB.h {} hb2
   repeat apply aA
   refine aQ ?_
   refine cl [0,2,3,4,6,7,8,9,51,52,58,59] ?_
   repeat apply aA
   refine aP ?_
   repeat apply aA
   rcases aH3 l2 with h1|⟨e,r2,h1,h2⟩|⟨e,r2,nn,q2,h1,h2⟩
   ·have hnone:eS (b.take (b.length - 2))=none:=by rw [hP2,show c.toNat - j=(c.toNat - (j+1))+1 by omega,aGP (aHX h1)];rfl
    repeat apply aA
    refine rd ?_
    refine da0 0 ?_
    refine d0 1 ?_
    refine da0 2 ?_
    refine psS 3 ?_
    refine psa 4 ?_
    refine psd 5 ?_
    refine psd 6 ?_
    refine psd 7 ?_
    refine psd 8 ?_
    refine psd 9 ?_
    refine psd 10 ?_
    refine pse 3 [0,1,0,4,0,28,60,124,255,511,1023] [2,3,63] ?_
    refine dpe [(0,140)] [] [0] none (spec:=aFX l2 h1) (hent:=xL) ?_
    repeat (first|refine aO ?_|refine aN ?_|refine aW ?_)
    refine bM ?_
    try refine om (h3:=by simp [bO,dA,G.idl,G.idls,cA,aF,aI]) ?_
    refine eJ [130,120,3000] [(0,130),(1,120),(2,3000)] (spec:=iQ 8 (by omega) (.int .i64 v.1) (.int .i64 v.2) (.int .i64 (st.toNat:Nat)) acc.length ((acc.map iY))) (hent:=lG) ?_
    refine cM ?_
    refine fp2 ?_
    rw [xN hnone]
    rfl
   ·have hnone:eS (b.take (b.length - 2))=none:=by rw [hP2,show c.toNat - j=(c.toNat - (j+1))+1 by omega,aGP (aHY h1 h2)];rfl
    repeat apply aA
    refine rd ?_
    refine da0 0 ?_
    refine d0 1 ?_
    refine da0 2 ?_
    refine dW 3 [(0,140)] [] [0] none (spec:=zA l2 e r2 h1) (hent:=xL) ?_
    refine da0 4 ?_
    refine psS 5 ?_
    refine psd 6 ?_
    refine psd 7 ?_
    refine psd 8 ?_
    refine psd 9 ?_
    refine psd 10 ?_
    refine pse 5 [0,1,0,4,0,28,60,124,255,511,1023] [2,3,65] ?_
    refine dpe [(0,140)] [] [0] none (spec:=aFX r2 h2) (hent:=xL) ?_
    repeat (first|refine aO ?_|refine aN ?_|refine aW ?_)
    refine bM ?_
    try refine om (h3:=by simp [bO,dA,G.idl,G.idls,cA,aF,aI]) ?_
    refine eJ [130,120,3000] [(0,130),(1,120),(2,3000)] (spec:=iQ 8 (by omega) (.int .i64 v.1) (.int .i64 v.2) (.int .i64 (st.toNat:Nat)) acc.length ((acc.map iY))) (hent:=lG) ?_
    refine cM ?_
    refine fp2 ?_
    rw [xN hnone]
    rfl
   repeat apply aA
   refine rd ?_
   refine da0 0 ?_
   refine d0 1 ?_
   refine da0 2 ?_
   refine dW 3 [(0,140)] [] [0] none (spec:=zA l2 e r2 h1) (hent:=xL) ?_
   refine da0 4 ?_
   refine dW 5 [(0,140)] [] [0] none (spec:=zA r2 nn q2 h2) (hent:=xL) ?_
   refine d0 6 ?_
   refine dn1 7 780 false (hc:=jK.h {}) ?_
   refine dn1 8 790 false (hc:=jK.h {}) ?_
   refine da0 9 ?_
   refine ds1 10 (hc:=jK.h {}) ?_
   refine dz 11 [0,1,0,4,0,28,60,124,255,511,1023] ?_
   refine de 11 ?_
   refine cl [0,2,3,4,6,7,8,9,51,52,58,59] ?_
   repeat apply aA
   apply aB
   refine v1 (hc:=jK.h {}) ?_
   refine v0 ?_
   apply aC
   refine dN [0,2,3,4,6,7,8,9,51,52,58,59] (h:=?_) (hV:=?_) (n':=c.toNat - (j+1))
   ·omega
   refine ⟨j+1,sp++[⟨e,nn⟩],q2,by omega,?_,?_,by omega,sgE rfl ?_⟩
   ·rw [List.length_append];simp;omega
   ·rw [hP2,show c.toNat - j=(c.toNat - (j+1))+1 by omega,aLU (aKl h1 h2)]
   simp [pV]
  replace hb2:=hB.h {} hb2
  repeat apply aA
  refine bY ?_
  repeat (first|refine bI ?_|refine aY ?_|refine bC ?_|refine bJ rfl ?_)
  refine cl [0,2,3,4,6,7,8,9,51,52] ?_
  repeat apply aA
  obtain rfl:j=c.toNat:=by omega
  refine pR 3010 (by (simp only [aF,aI,Nat.reduceEqDiff,reduceIte]<;>rfl)) ?_
  refine nH 190 1 .p (by (simp only [aF,aI,Nat.reduceEqDiff,reduceIte]<;>rfl)) (by rfl) (by simp only [cvS,toP,aF,aI,Nat.reduceEqDiff,reduceIte]<;>rfl) (by simp) rfl (by simp only [List.set_cons_zero,List.set_cons_succ]<;>rfl) ?_
  apply aB
  iterate 3 refine v0 ?_
  refine n1 850 false (hc:=jK.h {}) ?_
  refine n1 860 false (hc:=jK.h {}) ?_
  refine v0 ?_
  refine s1 (hc:=jK.h {}) ?_
  apply aC
  refine cl [0,2,3,4,6,7,8,51,52] ?_
  repeat apply aA
  apply aB
  refine v1 (hc:=jK.h {}) ?_
  refine v0 ?_
  apply aC
  refine dN [0,2,3,4,6,7,8,51,52] (h:=?_) (hV:=?_) (n':=nb.toNat - (k+1))
  ·omega
  refine ⟨k+1,acc++[⟨d,sp⟩],l2,by omega,?_,?_,?_,by omega,sgE rfl ?_⟩
  ·rw [List.length_append];simp;omega
  ·intro x hx;rcases List.mem_append.1 hx with hx|hx
   ·exact has x hx
   rw [List.mem_singleton] at hx;subst hx;show sp.length≤255;omega
  ·rw [hP2,Nat.sub_self,aLS];rfl
  simp [iY]
 replace hb1:=hB.h {} hb1
 repeat apply aA
 refine bY ?_
 repeat (first|refine bI ?_|refine aY ?_|refine bC ?_|refine bJ rfl ?_)
 refine cl [0,2,3,4] ?_
 repeat apply aA
 obtain rfl:k=nb.toNat:=by omega
 rw [Nat.sub_self,aLR] at hP
 have hP4:eS (b.take (b.length - 2))=some ((⟨v,acc,(st.toNat:Nat)⟩:Sch),l):=hP
 refine pR 3000 (by (simp only [aF,aI,Nat.reduceEqDiff,reduceIte]<;>rfl)) ?_
 refine nH 120 2 .p (by (simp only [aF,aI,Nat.reduceEqDiff,reduceIte]<;>rfl)) (by rfl) (by simp only [cvS,toP,aF,aI,Nat.reduceEqDiff,reduceIte]<;>rfl) (by simp) rfl (by simp only [List.set_cons_zero,List.set_cons_succ]<;>rfl) ?_
 have hcase:(l=[]∧(⟨v,acc,(st.toNat:Nat)⟩:Sch).valid=true∧oS (⟨v,acc,(st.toNat:Nat)⟩:Sch)=b)∨(l=[]∧(⟨v,acc,(st.toNat:Nat)⟩:Sch).valid=true∧oS (⟨v,acc,(st.toNat:Nat)⟩:Sch)≠b)∨(l=[]∧(⟨v,acc,(st.toNat:Nat)⟩:Sch).valid=false)∨(l≠[]∧(⟨v,acc,(st.toNat:Nat)⟩:Sch).valid=true)∨(l≠[]∧(⟨v,acc,(st.toNat:Nat)⟩:Sch).valid=false):=by
  cases hv:(⟨v,acc,(st.toNat:Nat)⟩:Sch).valid<;>by_cases hl:l=[]<;>by_cases hb:oS (⟨v,acc,(st.toNat:Nat)⟩:Sch)=b<;>simp [hl,hb]
 rcases hcase with ⟨rfl,hv,hb⟩|⟨rfl,hv,hb⟩|⟨rfl,hv⟩|⟨hl,hv⟩|⟨hl,hv⟩
 ·repeat apply aA
  apply aB
  refine v0 ?_
  refine oc0 [(220,3600)] [] [0] none (spec:=vY (⟨v,acc,(st.toNat:Nat)⟩:Sch) hv) (hent:=aBA) ?_
  iterate 5 refine v0 ?_
  apply aC
  refine cl [0,2,3,4,10,11] ?_
  repeat apply aA
  apply aB
  iterate 3 refine v0 ?_
  refine rb 86 true (h:=by (first|rfl|simp)) ?_
  refine v0 ?_
  iterate 2 refine w0 ?_
  refine rb 89 true (h:=by (first|with_reducible rfl|exact decide_eq_true (by omega)|rfl|decide)) ?_
  iterate 2 refine v0 ?_
  iterate 2 refine w0 ?_
  refine aJj 3600 (by (simp only [aF,aI,Nat.reduceEqDiff,reduceIte]<;>rfl)) ?_
  refine ocv 92 .p (hc:=by first|(rw [bV];done)|(rw [bV,hb];done)) (k:=?_)
  refine pcw (spec:=aAz (oS (⟨v,acc,(st.toNat:Nat)⟩:Sch)) b (by have:=wB hv;omega)) (hent:=aGM) ?_
  refine rb 94 true (h:=by (exact decide_eq_true hb)) ?_
  refine v0 ?_
  refine pc0 (spec:=bH _) (hent:=bX) ?_
  apply aC
  refine cl [2,3] ?_
  repeat apply aA
  apply aB
  refine v0 ?_
  iterate 2 refine s1 (hc:=jK.h {}) ?_
  apply aC
  repeat apply aA
  refine aL ?_
  repeat (first|refine aH ?_|refine aE ?_|refine aD ?_)
  refine tK ?_
  try refine om (h3:=by simp [bO,dA,G.idl,G.idls,cA,aF,aI]) ?_
  refine eJ [130,120] [(0,130),(1,120)] (spec:=aKg (.int .i64 v.1) (.int .i64 v.2) (.list (acc.map iY)) (.int .i64 (st.toNat:Nat))) (hent:=lG) ?_
  refine cM ?_
  refine fp2 ?_
  rw [aPc hP4 hv hb]
  rfl
 ·repeat apply aA
  apply aB
  refine v0 ?_
  refine oc0 [(220,3600)] [] [0] none (spec:=vY (⟨v,acc,(st.toNat:Nat)⟩:Sch) hv) (hent:=aBA) ?_
  iterate 5 refine v0 ?_
  apply aC
  refine cl [0,2,3,4,10,11] ?_
  repeat apply aA
  apply aB
  iterate 3 refine v0 ?_
  refine rb 86 true (h:=by (first|rfl|simp)) ?_
  refine v0 ?_
  iterate 2 refine w0 ?_
  refine rb 89 true (h:=by (first|with_reducible rfl|exact decide_eq_true (by omega)|rfl|decide)) ?_
  iterate 2 refine v0 ?_
  iterate 2 refine w0 ?_
  refine aJj 3600 (by (simp only [aF,aI,Nat.reduceEqDiff,reduceIte]<;>rfl)) ?_
  refine ocv 92 .p (hc:=by first|(rw [bV];done)|(rw [bV,hb];done)) (k:=?_)
  refine pcw (spec:=aAz (oS (⟨v,acc,(st.toNat:Nat)⟩:Sch)) b (by have:=wB hv;omega)) (hent:=aGM) ?_
  refine rb 94 false (h:=by (exact decide_eq_false hb)) ?_
  refine v0 ?_
  refine pp0 (spec:=cX _) (hent:=bX) ?_
  repeat (first|refine aO ?_|refine aN ?_|refine aW ?_)
  refine bM ?_
  try refine om (h3:=by simp [bO,dA,G.idl,G.idls,cA,aF,aI]) ?_
  refine eJ [130,120] [(0,130),(1,120)] (spec:=aAA 8 (by omega) (.int .i64 v.1) (.int .i64 v.2) (.list (acc.map iY)) (.int .i64 (st.toNat:Nat))) (hent:=lG) ?_
  refine cM ?_
  refine fp2 ?_
  rw [aGQ hP4 (fun hh=>?_)]
  ·rfl
  exact hb hh.2.2
 ·repeat apply aA
  apply aB
  refine v0 ?_
  refine oc0 [] [] [0] none (spec:=vZ (⟨v,acc,(st.toNat:Nat)⟩:Sch) hv (by show acc.length≤_;omega) (fun x hx=>by have:=has x hx;omega)) (hent:=aBA) ?_
  iterate 5 refine v0 ?_
  apply aC
  refine cl [0,2,3,4,10,11] ?_
  repeat apply aA
  apply aB
  iterate 3 refine v0 ?_
  refine rb 86 true (h:=by (first|rfl|simp)) ?_
  refine v0 ?_
  iterate 2 refine w0 ?_
  refine rb 89 false (h:=by (first|with_reducible rfl|exact decide_eq_false (by omega)|rfl|decide)) ?_
  iterate 2 refine v0 ?_
  iterate 3 refine x0 ?_
  refine v0 ?_
  refine pp0 (spec:=cX _) (hent:=bX) ?_
  repeat (first|refine aO ?_|refine aN ?_|refine aW ?_)
  refine bM ?_
  try refine om (h3:=by simp [bO,dA,G.idl,G.idls,cA,aF,aI]) ?_
  refine eJ [130,120] [(0,130),(1,120)] (spec:=aAA 8 (by omega) (.int .i64 v.1) (.int .i64 v.2) (.list (acc.map iY)) (.int .i64 (st.toNat:Nat))) (hent:=lG) ?_
  refine cM ?_
  refine fp2 ?_
  rw [aGQ hP4 (fun hh=>?_)]
  ·rfl
  rw [hh.2.1] at hv;cases hv
 ·repeat apply aA
  apply aB
  refine v0 ?_
  refine oc0 [(220,3600)] [] [0] none (spec:=vY (⟨v,acc,(st.toNat:Nat)⟩:Sch) hv) (hent:=aBA) ?_
  iterate 5 refine v0 ?_
  apply aC
  refine cl [0,2,3,4,10,11] ?_
  repeat apply aA
  apply aB
  iterate 3 refine v0 ?_
  refine rb 86 false (h:=by (exact decide_eq_false (fun e=>hl (List.eq_nil_of_length_eq_zero (by omega))))) ?_
  refine v0 ?_
  iterate 2 refine x0 ?_
  iterate 2 refine v0 ?_
  iterate 3 refine x0 ?_
  refine v0 ?_
  refine pp0 (spec:=cX _) (hent:=bX) ?_
  repeat (first|refine aO ?_|refine aN ?_|refine aW ?_)
  refine bM ?_
  try refine om (h3:=by simp [bO,dA,G.idl,G.idls,cA,aF,aI]) ?_
  refine eJ [130,120] [(0,130),(1,120)] (spec:=aAA 8 (by omega) (.int .i64 v.1) (.int .i64 v.2) (.list (acc.map iY)) (.int .i64 (st.toNat:Nat))) (hent:=lG) ?_
  refine cM ?_
  refine fp2 ?_
  rw [aGQ hP4 (fun hh=>?_)]
  ·rfl
  exact hl hh.1
 repeat apply aA
 apply aB
 refine v0 ?_
 refine oc0 [] [] [0] none (spec:=vZ (⟨v,acc,(st.toNat:Nat)⟩:Sch) hv (by show acc.length≤_;omega) (fun x hx=>by have:=has x hx;omega)) (hent:=aBA) ?_
 iterate 5 refine v0 ?_
 apply aC
 refine cl [0,2,3,4,10,11] ?_
 repeat apply aA
 apply aB
 iterate 3 refine v0 ?_
 refine rb 86 false (h:=by (exact decide_eq_false (fun e=>hl (List.eq_nil_of_length_eq_zero (by omega))))) ?_
 refine v0 ?_
 iterate 2 refine x0 ?_
 iterate 2 refine v0 ?_
 iterate 3 refine x0 ?_
 refine v0 ?_
 refine pp0 (spec:=cX _) (hent:=bX) ?_
 repeat (first|refine aO ?_|refine aN ?_|refine aW ?_)
 refine bM ?_
 try refine om (h3:=by simp [bO,dA,G.idl,G.idls,cA,aF,aI]) ?_
 refine eJ [130,120] [(0,130),(1,120)] (spec:=aAA 8 (by omega) (.int .i64 v.1) (.int .i64 v.2) (.list (acc.map iY)) (.int .i64 (st.toNat:Nat))) (hent:=lG) ?_
 refine cM ?_
 refine fp2 ?_
 rw [aGQ hP4 (fun hh=>?_)]
 ·rfl
 exact hl hh.1
end
section
open Go.Gh
variable {E:Env Tryz.prog} {A:E.α}
theorem eO:aJ Tryz.prog 100:=aJ.mk Tryz.func100 (by kernel_rfl) rfl
theorem aKm:aJ Tryz.prog 113:=aJ.mk Tryz.func113 (by kernel_rfl) rfl
theorem aFZ (xs:List Str) (u v:Int) (hs:cG xs) (h:dD xs=some (u,v)):Gh.bD E 113 [.ref 0 0] (aG [(0,.cells [.p (bW xs)] 0)]) A (fun y=>y = .ok (.p (.iface 193 (.agg [.int .i64 u,.int .i64 v]))) (aG [(0,.cells [.p (bW xs.tail)] 0)]) A):=by
 refine spX 7 Tryz.func113 rfl ?_
 intro C hN hL
 simp only [Gh.num,List.map_cons,List.map_nil,Nat.reduceAdd]
 repeat apply aA
 apply aB
 refine v0 ?_
 apply aC
 refine cl [0] ?_
 repeat apply aA
 apply aB
 refine v0 ?_
 refine oc0 [(0,0)] [] [0] none (spec:=eK xs u v hs h) (hent:=eO) ?_
 iterate 3 refine v0 ?_
 apply aC
 repeat apply aA
 refine aL ?_
 repeat (first|refine aH ?_|refine aE ?_|refine aD ?_)
 refine aM ?_
 refine fh [0] ?_
 rfl
theorem aF0 (xs:List Str) (hs:cG xs) (h:dD xs=none):Gh.bD E 113 [.ref 0 0] (aG [(0,.cells [.p (bW xs)] 0)]) A (fun y=>y = .panic (.iface 218 (.agg [.int .i64 8])) (aG [(0,.cells [.p (bW xs.tail)] 0)]) A):=by
 refine spX 7 Tryz.func113 rfl ?_
 intro C hN hL
 simp only [Gh.num,List.map_cons,List.map_nil,Nat.reduceAdd]
 repeat apply aA
 apply aB
 refine v0 ?_
 apply aC
 refine cl [0] ?_
 repeat apply aA
 apply aB
 refine v0 ?_
 refine op0 [(0,0)] [] [0] none (spec:=lD xs hs h) (hent:=eO) ?_
 repeat (first|refine aO ?_|refine aN ?_)
 refine fph [0] ?_
 rfl
theorem aKn:aJ Tryz.prog 101:=aJ.mk Tryz.func101 (by kernel_rfl) rfl
theorem aH4 (xs:List Str) (u v:Int) (hs:cG xs) (h:dD xs=some (u,v)):Gh.bD E 101 [.ref 0 0] (aG [(0,.cells [.p (bW xs)] 0)]) A (fun y=>y = .ok (.p (.iface 171 (.agg [.int .i64 u,.int .i64 v]))) (aG [(0,.cells [.p (bW xs.tail)] 0)]) A):=by
 refine spX 7 Tryz.func101 rfl ?_
 intro C hN hL
 simp only [Gh.num,List.map_cons,List.map_nil,Nat.reduceAdd]
 repeat apply aA
 apply aB
 refine v0 ?_
 apply aC
 refine cl [0] ?_
 repeat apply aA
 apply aB
 refine v0 ?_
 refine oc0 [(0,0)] [] [0] none (spec:=eK xs u v hs h) (hent:=eO) ?_
 iterate 3 refine v0 ?_
 apply aC
 repeat apply aA
 refine aL ?_
 repeat (first|refine aH ?_|refine aE ?_|refine aD ?_)
 refine aM ?_
 refine fh [0] ?_
 rfl
theorem aH5 (xs:List Str) (hs:cG xs) (h:dD xs=none):Gh.bD E 101 [.ref 0 0] (aG [(0,.cells [.p (bW xs)] 0)]) A (fun y=>y = .panic (.iface 218 (.agg [.int .i64 8])) (aG [(0,.cells [.p (bW xs.tail)] 0)]) A):=by
 refine spX 7 Tryz.func101 rfl ?_
 intro C hN hL
 simp only [Gh.num,List.map_cons,List.map_nil,Nat.reduceAdd]
 repeat apply aA
 apply aB
 refine v0 ?_
 apply aC
 refine cl [0] ?_
 repeat apply aA
 apply aB
 refine v0 ?_
 refine op0 [(0,0)] [] [0] none (spec:=lD xs hs h) (hent:=eO) ?_
 repeat (first|refine aO ?_|refine aN ?_)
 refine fph [0] ?_
 rfl
end
end Go.Proofs.YtecmhhpccmaeiaaGreatDoor
