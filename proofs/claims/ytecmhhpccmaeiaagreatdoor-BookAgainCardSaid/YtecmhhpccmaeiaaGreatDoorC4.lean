/- What functions of the program return, each for every input that its theorem names. Made small by a program of ours. -/
import Derived.Test.YtecmhhpccmaeiaaGreatDoorC3
set_option linter.unusedVariables false
set_option linter.unusedSimpArgs false
set_option maxRecDepth 100000
set_option maxHeartbeats 4000000
namespace Go.Proofs.YtecmhhpccmaeiaaGreatDoor
section
open Go.Gh
variable {E:Env Tryz.prog} {A:E.α}
structure uB (c:Prop):Prop where
 h:c:=by (first|exact True.intro|omega|(simp only [inI];omega)|(simp [P.size,bU,bG,bR,bB,cS,good,G.one,P.one,P.cells]<;>first|omega|assumption|simp_all))
def aKM:TI:=⟨.func #[164] #[166] false,1,8,[.p .nilfn],false⟩
theorem aMA:eN (eX aKM) (cP (geq Tryz.prog 6 9) (.str [109,101,97,115,117,114,101]) (gG 2))=some (true,.p (.fn (.func 98) [] [])):=by simp [gG,zF,List.cons_append,List.nil_append,cP,cY];rfl
theorem aMB:eN (eX aKM) (cP (geq Tryz.prog 6 9) (.str [116,117,114,110]) (gG 2))=some (true,.p (.fn (.func 101) [] [])):=by simp [gG,zF,List.cons_append,List.nil_append,cP,cY];rfl
theorem aMC:eN (eX aKM) (cP (geq Tryz.prog 6 9) (.str [112,108,97,105,110]) (gG 2))=some (true,.p (.fn (.func 103) [] [.ptr [.int .i64 0]])):=by simp [gG,zF,List.cons_append,List.nil_append,cP,cY];rfl
theorem aMD:eN (eX aKM) (cP (geq Tryz.prog 6 9) (.str [114,101,118,101,114,115,101,100]) (gG 2))=some (true,.p (.fn (.func 103) [] [.ptr [.int .i64 1]])):=by simp [gG,zF,List.cons_append,List.nil_append,cP,cY];rfl
theorem aPi {w:Str} (h1:w≠[109,101,97,115,117,114,101]) (h2:w≠[116,117,114,110]) (h3:w≠[112,108,97,105,110]) (h4:w≠[114,101,118,101,114,115,101,100]):eN (eX aKM) (cP (geq Tryz.prog 6 9) (.str w) (gG 2))=some (false,.p .nilfn):=by simp [gG,zF,List.cons_append,List.nil_append,cP,cY,h1,h2,h3,h4];rfl
theorem xO (w:Str):jP (geq Tryz.prog 6 9) (.str w) (gG 2):=by
 simp only [jP,gG,zF,cY,Option.isSome_some,true_and,Option.some.injEq,decide_eq_true_eq]
 intro x hx
 simp only [List.cons_append,List.nil_append,List.mem_cons,List.not_mem_nil,or_false] at hx
 rcases hx with rfl|rfl|rfl|rfl<;>simp [cY]<;>exact fun h=>h.symm
theorem aOs:iP Tryz.prog 168 "zoneworks/book.put" = some 229:=by kernel_rfl
theorem aOt:iP Tryz.prog 171 "zoneworks/book.put" = some 230:=by kernel_rfl
theorem aKN:iP Tryz.prog 172 "zoneworks/book.put" = some 231:=by kernel_rfl
theorem aIy (z:Msr) (w:Str) (r:List Str):(w=[109,101,97,115,117,114,101]∧∃h,xE r=some h∧dR z (w::r)=some ({ z with im:=h.1,su:=h.2.1,ey:=h.2.2 }:Msr))∨(w=[109,101,97,115,117,114,101]∧xE r=none∧dR z (w::r)=none) ∨
  (w=[116,117,114,110]∧∃u v,dD r=some (u,v)∧dR z (w::r)=some ({ z with er:=z.er++[(u,v)] }:Msr))∨(w=[116,117,114,110]∧dD r=none∧dR z (w::r)=none) ∨
  (w=[112,108,97,105,110]∧∃x,xF r false=some x∧dR z (w::r)=some ({ z with se:=z.se++[x] }:Msr))∨(w=[112,108,97,105,110]∧xF r false=none∧dR z (w::r)=none) ∨
  (w=[114,101,118,101,114,115,101,100]∧∃x,xF r true=some x∧dR z (w::r)=some ({ z with se:=z.se++[x] }:Msr))∨(w=[114,101,118,101,114,115,101,100]∧xF r true=none∧dR z (w::r)=none) ∨
  ((w≠[109,101,97,115,117,114,101]∧w≠[116,117,114,110]∧w≠[112,108,97,105,110]∧w≠[114,101,118,101,114,115,101,100])∧dR z (w::r)=none):=by
 by_cases h1:w=[109,101,97,115,117,114,101]
 ·subst h1
  cases e:xE r with
  |some h=>exact .inl ⟨rfl,h,rfl,by simp [dR,e]⟩
  |none=>exact .inr (.inl ⟨rfl,rfl,by simp [dR,e]⟩)
 by_cases h2:w=[116,117,114,110]
 ·subst h2
  cases e:dD r with
  |some h=>exact .inr (.inr (.inl ⟨rfl,h.1,h.2,rfl,by simp [dR,e]⟩))
  |none=>exact .inr (.inr (.inr (.inl ⟨rfl,rfl,by simp [dR,e]⟩)))
 by_cases h3:w=[112,108,97,105,110]
 ·subst h3
  cases e:xF r false with
  |some h=>exact .inr (.inr (.inr (.inr (.inl ⟨rfl,h,rfl,by simp [dR,e]⟩))))
  |none=>exact .inr (.inr (.inr (.inr (.inr (.inl ⟨rfl,rfl,by simp [dR,e]⟩)))))
 by_cases h4:w=[114,101,118,101,114,115,101,100]
 ·subst h4
  cases e:xF r true with
  |some h=>exact .inr (.inr (.inr (.inr (.inr (.inr (.inl ⟨rfl,h,rfl,by simp [dR,e]⟩))))))
  |none=>exact .inr (.inr (.inr (.inr (.inr (.inr (.inr (.inl ⟨rfl,rfl,by simp [dR,e]⟩)))))))
 exact .inr (.inr (.inr (.inr (.inr (.inr (.inr (.inr ⟨⟨h1,h2,h3,h4⟩,by simp [dR,h1,h2,h3,h4]⟩)))))))
def rdM (s:Str):P:=match pK s with
 |some p=>.tuple [gE p,.int .i64 0]
 |none=>.tuple [gE Msr.z,.int .i64 8]
theorem aME {s:Str} (h:dY dR Msr.z s=none):rdM s = .tuple [gE Msr.z,.int .i64 8]:=by unfold rdM pK;rw [h]
theorem aMF {s:Str} {p:Msr} (h:dY dR Msr.z s=some p) (h2:p.valid=false∨txt (gL p)≠s):rdM s = .tuple [gE Msr.z,.int .i64 8]:=by
 unfold rdM pK
 rw [h]
 rcases h2 with h2|h2<;>simp [h2]
theorem aPj {s:Str} {p:Msr} (h:dY dR Msr.z s=some p) (h1:p.valid=true) (h2:txt (gL p)=s):rdM s = .tuple [gE p,.int .i64 0]:=by
 unfold rdM pK
 rw [h]
 simp [h1,h2]
theorem aKO:aJ Tryz.prog 54:=aJ.mk Tryz.func54 (by kernel_rfl) rfl
theorem aGe (s:Str) (h:s.length≤4096) (hs:Lib.hasSuffix s [10]=true):Gh.bD E 54 [.p (.str s),.agg [.p (.fn (.func 95) [] []),.map 0,.p (.fn (.func 102) [] [])]] (aG [(0,.map (gG 2))]) A (fun y=>y = .ok (.p (rdM s)) (aG [(0,.map (gG 2))]) A):=by
 refine hE Tryz.func54 (rfl:Tryz.f54.body=some _) (Nat.le_of_ble_eq_true rfl) (fun id h=>?_) (fun j id h=>?_) ?_
 ·exact kA h
 ·exact kB h
 intro C hN hL
 replace hN:C.N=48:=hN
 simp only [Gh.num,List.map_cons,List.map_nil,Nat.reduceAdd]
 repeat apply aV
 refine bK ?_
 apply aB
 refine n1 130 false (hc:=uB.h {}) ?_
 refine n1 140 false (hc:=uB.h {}) ?_
 refine n1 150 false (hc:=uB.h {}) ?_
 apply aC
 refine xcl [0,3,4,5] ?_
 repeat apply aV
 refine bK ?_
 apply aB
 refine v0 ?_
 refine df0 ?_
 apply aC
 refine xcl [0,3,4,5] ?_
 repeat apply aV
 refine bK ?_
 refine ad 140 0 3000 24 2 false ?_
 refine ad 140 6 3010 81 3 false ?_
 apply aB
 iterate 3 refine v0 ?_
 refine rb 14 true (h:=by (first|with_reducible rfl|exact decide_eq_true (by omega)|rfl|decide)) ?_
 refine pc0 (spec:=bH _) (hent:=bX) ?_
 apply aC
 refine xcl [0,3,4,5] ?_
 repeat apply aV
 refine bK ?_
 apply aB
 refine v0 ?_
 refine oc0 [] [] [0] none (spec:=jG s) (hent:=yQ) ?_
 apply aC
 refine xcl [0,3,4,5,17] ?_
 repeat apply aV
 refine iU ?_
 repeat apply aV
 refine rfY 10000 99001 [18] (fun k (z:Msr) A1=>run dR ((bT s).take k) Msr.z=some z∧z.er.length≤k∧z.se.length≤k∧A1=A) (fun z=>[(130,.cells [.p (.fn (.func 95) [] []),.map 0,.p (.fn (.func 102) [] [])] 0),(140,.cells [.own 3000 z.er.length,.p (.int .i64 z.ey.1),.p (.int .i64 z.ey.2),.p (.int .i64 z.im),.p (.int .i64 z.su.1),.p (.int .i64 z.su.2),.own 3010 z.se.length] 0),(150,.cells [.p (.int .i64 0)] 0),(0,.map (gG 2)),(3000,.arr 24 2 (z.er.map pSp) false),(3010,.arr 81 3 (z.se.map fK) false)]) (fun _ (_:Msr) _=>False) (fun _ _=>[]) (fun p (_:Msr) A1=>p = .iface 218 (.agg [.int .i64 8])∧dY dR Msr.z s=none∧A1=A) (fun _ z=>[(130,.cells [.p (.fn (.func 95) [] []),.map 0,.p (.fn (.func 102) [] [])] 0),(140,.cells [.own 3000 z.er.length,.p (.int .i64 z.ey.1),.p (.int .i64 z.ey.2),.p (.int .i64 z.im),.p (.int .i64 z.su.1),.p (.int .i64 z.su.2),.own 3010 z.se.length] 0),(150,.cells [.p (.int .i64 0)] 0),(0,.map (gG 2)),(3000,.arr 24 2 (z.er.map pSp) false),(3010,.arr 81 3 (z.se.map fK) false)]) [] [.k] (it:=aDp s (by omega) hs) (hent:=yR) (xs:=pls s) (tail:=none) (pan:=true) (hlen:=fun x hx=>by obtain ⟨w,_,rfl⟩:=List.mem_map.1 hx;rfl) (hshp:=fun x hx=>by obtain ⟨w,_,rfl⟩:=List.mem_map.1 hx;exact .inr ⟨_,rfl⟩) (h0:=?_) (round:=fun k z A1 x hI hx lp bs C1 hN1 hL1=>?_) (hK:=fun e z A1 hK=>?_) (hP:=fun p z A1 hP=>?_) (hT:=fun p z A1 ht hT=>?_) (hI:=fun z A1 ht hI=>?_)
 ·exact ⟨Msr.z,⟨rfl,Nat.zero_le _,Nat.zero_le _,rfl⟩,rfl⟩
 ·obtain ⟨hz,hzler,hzlse,rfl⟩:=hI
  obtain ⟨ln,hln,rfl⟩:=aDB hx
  have hll:ln.length≤4096:=by have:=oP s ln (List.mem_of_getElem? hln);omega
  have hkl:k<(bT s).length:=(List.getElem?_eq_some_iff.1 hln).1
  have hln2:=kQ s
  replace hN1:C1.N=48:=hN1.trans hN
  refine (?_:gwp C1 (some lp) _ _ (sg ((18,.ref 95000 0)::_) [(95000,.cells [.p (bW (hU ln))] 0),(130,.cells [.p (.fn (.func 95) [] []),.map 0,.p (.fn (.func 102) [] [])] 0),(140,.cells [.own 3000 z.er.length,.p (.int .i64 z.ey.1),.p (.int .i64 z.ey.2),.p (.int .i64 z.im),.p (.int .i64 z.su.1),.p (.int .i64 z.su.2),.own 3010 z.se.length] 0),(150,.cells [.p (.int .i64 0)] 0),(0,.map (gG 2)),(3000,.arr 24 2 (z.er.map pSp) false),(3010,.arr 81 3 (z.se.map fK) false)] A1 []))
  repeat apply aA
  apply aB
  refine v0 ?_
  apply aC
  refine ⟨rfl,fun bs2 C2 hN2 hL2 hr2=>?_⟩
  replace hN2:C2.N=48:=hN2.trans hN
  refine (?_:gwp C2 (some lp) _ _ (sg _ _ _ []))
  repeat apply aA
  refine aP ?_
  repeat apply aA
  obtain ⟨w,r,hwr⟩:=aDr ln
  have hsr:cG r:=fun x hx=>vX (ln:=ln) (by omega) x (by rw [hwr];exact List.mem_cons_of_mem _ hx)
  have hrl:r.length≤100000:=by have h1:=aBO ln;rw [hwr] at h1;simp only [List.length_cons] at h1;omega
  rw [hwr]
  rcases aIy z w r with ⟨rfl,h1,hsp,hst⟩|⟨rfl,hsp,hst⟩|⟨rfl,u,v,hsp,hst⟩|⟨rfl,hsp,hst⟩|⟨rfl,x,hsp,hst⟩|⟨rfl,hsp,hst⟩|⟨rfl,x,hsp,hst⟩|⟨rfl,hsp,hst⟩|⟨⟨hw1,hw2,hw3,hw4⟩,hst⟩
  ·have hstep:run dR ((bT s).take (k+1)) Msr.z=some (({ z with im:=h1.1,su:=h1.2.1,ey:=h1.2.2 }:Msr)):=by rw [iL hz hln,hwr];exact hst
   repeat apply aA
   refine rd ?_
   refine d0 0 ?_
   refine d0 1 ?_
   refine d0 2 ?_
   refine dW 3 [(0,95000)] [] [0] none (spec:=cO [109,101,97,115,117,114,101] r) (hent:=dL) ?_
   refine dl 4 (hv:=aMA) (hkk:=xO _) ?_
   refine d0 5 ?_
   refine d0 6 ?_
   refine d0 7 ?_
   refine d0 8 ?_
   refine d0 9 ?_
   refine dz 10 [0,1,0,4,15,31,63,63,127,511] ?_
   refine de 10 ?_
   refine cl [0,3,4,5,6,7,8] ?_
   repeat apply aA
   apply aB
   refine v0 ?_
   refine pc0 (spec:=bH _) (hent:=bX) ?_
   apply aC
   refine cl [0,3,4,5,6,7] ?_
   repeat apply aA
   apply aB
   iterate 2 refine v0 ?_
   refine oc0 [(0,95000)] [] [0] none (spec:=aKp r h1 hsr hsp) (hent:=aMk) ?_
   refine oc0 [(0,140),(1,3000),(2,3010)] [] [0,0] none (spec:=aIo (.int .i64 z.ey.1) (.int .i64 z.ey.2) (.int .i64 z.im) (.int .i64 z.su.1) (.int .i64 z.su.2) rfl rfl rfl rfl rfl z.er z.se h1.1 h1.2.1.1 h1.2.1.2 h1.2.2.1 h1.2.2.2) (hent:=aOh) (hg:=by (simp only [cI,gev,aT,Nat.reduceEqDiff,reduceIte,aOs]<;>rfl)) ?_
   apply aC
   refine ⟨_,({ z with im:=h1.1,su:=h1.2.1,ey:=h1.2.2 }:Msr),lc [130,140,150,0,3000,3010],rfl,?_,?_,?_,rfl⟩
   ·exact hstep
   ·(try simp only [List.length_append,List.length_cons,List.length_nil]);omega
   (try simp only [List.length_append,List.length_cons,List.length_nil]);omega
  ·have hnone:dY dR Msr.z s=none:=by rw [fY hs];exact fS hz hln (by rw [hwr];exact hst)
   repeat apply aA
   refine rd ?_
   refine d0 0 ?_
   refine d0 1 ?_
   refine d0 2 ?_
   refine dW 3 [(0,95000)] [] [0] none (spec:=cO [109,101,97,115,117,114,101] r) (hent:=dL) ?_
   refine dl 4 (hv:=aMA) (hkk:=xO _) ?_
   refine d0 5 ?_
   refine d0 6 ?_
   refine d0 7 ?_
   refine d0 8 ?_
   refine d0 9 ?_
   refine dz 10 [0,1,0,4,15,31,63,63,127,511] ?_
   refine de 10 ?_
   refine cl [0,3,4,5,6,7,8] ?_
   repeat apply aA
   apply aB
   refine v0 ?_
   refine pc0 (spec:=bH _) (hent:=bX) ?_
   apply aC
   refine cl [0,3,4,5,6,7] ?_
   repeat apply aA
   apply aB
   iterate 2 refine v0 ?_
   refine op0 [(0,95000)] [] [0] none (spec:=aKq r hsr hsp) (hent:=aMk) ?_
   repeat (first|refine aO ?_|refine aN ?_|refine aW ?_)
   exact ⟨rfl,z,aAk [130,140,150,0,3000,3010],rfl,hnone,rfl⟩
  ·have hstep:run dR ((bT s).take (k+1)) Msr.z=some (({ z with er:=z.er++[(u,v)] }:Msr)):=by rw [iL hz hln,hwr];exact hst
   repeat apply aA
   refine rd ?_
   refine d0 0 ?_
   refine d0 1 ?_
   refine d0 2 ?_
   refine dW 3 [(0,95000)] [] [0] none (spec:=cO [116,117,114,110] r) (hent:=dL) ?_
   refine dl 4 (hv:=aMB) (hkk:=xO _) ?_
   refine d0 5 ?_
   refine d0 6 ?_
   refine d0 7 ?_
   refine d0 8 ?_
   refine d0 9 ?_
   refine dz 10 [0,1,0,4,15,31,63,63,127,511] ?_
   refine de 10 ?_
   refine cl [0,3,4,5,6,7,8] ?_
   repeat apply aA
   apply aB
   refine v0 ?_
   refine pc0 (spec:=bH _) (hent:=bX) ?_
   apply aC
   refine cl [0,3,4,5,6,7] ?_
   repeat apply aA
   apply aB
   iterate 2 refine v0 ?_
   refine oc0 [(0,95000)] [] [0] none (spec:=aH4 r u v hsr hsp) (hent:=aKn) ?_
   refine oc0 [(0,140),(1,3000),(2,3010)] [] [0,0] none (spec:=aIp (.int .i64 z.ey.1) (.int .i64 z.ey.2) (.int .i64 z.im) (.int .i64 z.su.1) (.int .i64 z.su.2) rfl rfl rfl rfl rfl z.er z.se (u,v) (by omega)) (hent:=aOi) (hg:=by (simp only [cI,gev,aT,Nat.reduceEqDiff,reduceIte,aOt]<;>rfl)) ?_
   apply aC
   refine ⟨_,({ z with er:=z.er++[(u,v)] }:Msr),lc [130,140,150,0,3000,3010],rfl,?_,?_,?_,rfl⟩
   ·exact hstep
   ·(try simp only [List.length_append,List.length_cons,List.length_nil]);omega
   (try simp only [List.length_append,List.length_cons,List.length_nil]);omega
  ·have hnone:dY dR Msr.z s=none:=by rw [fY hs];exact fS hz hln (by rw [hwr];exact hst)
   repeat apply aA
   refine rd ?_
   refine d0 0 ?_
   refine d0 1 ?_
   refine d0 2 ?_
   refine dW 3 [(0,95000)] [] [0] none (spec:=cO [116,117,114,110] r) (hent:=dL) ?_
   refine dl 4 (hv:=aMB) (hkk:=xO _) ?_
   refine d0 5 ?_
   refine d0 6 ?_
   refine d0 7 ?_
   refine d0 8 ?_
   refine d0 9 ?_
   refine dz 10 [0,1,0,4,15,31,63,63,127,511] ?_
   refine de 10 ?_
   refine cl [0,3,4,5,6,7,8] ?_
   repeat apply aA
   apply aB
   refine v0 ?_
   refine pc0 (spec:=bH _) (hent:=bX) ?_
   apply aC
   refine cl [0,3,4,5,6,7] ?_
   repeat apply aA
   apply aB
   iterate 2 refine v0 ?_
   refine op0 [(0,95000)] [] [0] none (spec:=aH5 r hsr hsp) (hent:=aKn) ?_
   repeat (first|refine aO ?_|refine aN ?_|refine aW ?_)
   exact ⟨rfl,z,aAk [130,140,150,0,3000,3010],rfl,hnone,rfl⟩
  ·have hstep:run dR ((bT s).take (k+1)) Msr.z=some (({ z with se:=z.se++[x] }:Msr)):=by rw [iL hz hln,hwr];exact hst
   repeat apply aA
   refine rd ?_
   refine d0 0 ?_
   refine d0 1 ?_
   refine d0 2 ?_
   refine dW 3 [(0,95000)] [] [0] none (spec:=cO [112,108,97,105,110] r) (hent:=dL) ?_
   refine dl 4 (hv:=aMC) (hkk:=xO _) ?_
   refine d0 5 ?_
   refine d0 6 ?_
   refine d0 7 ?_
   refine d0 8 ?_
   refine d0 9 ?_
   refine dz 10 [0,1,0,4,15,31,63,63,127,511] ?_
   refine de 10 ?_
   refine cl [0,3,4,5,6,7,8] ?_
   repeat apply aA
   apply aB
   refine v0 ?_
   refine pc0 (spec:=bH _) (hent:=bX) ?_
   apply aC
   refine cl [0,3,4,5,6,7] ?_
   repeat apply aA
   apply aB
   iterate 2 refine v0 ?_
   refine oc0 [(0,95000)] [] [0,0] none (spec:=aGT r 0 x hsr hsp) (hent:=aDz) ?_
   refine oc0 [(0,140),(1,3000),(2,3010)] [] [0,0] none (spec:=aES (.int .i64 z.ey.1) (.int .i64 z.ey.2) (.int .i64 z.im) (.int .i64 z.su.1) (.int .i64 z.su.2) rfl rfl rfl rfl rfl z.er z.se x (by omega)) (hent:=aKE) (hg:=by (simp only [cI,gev,aT,Nat.reduceEqDiff,reduceIte,aKN]<;>rfl)) ?_
   apply aC
   refine ⟨_,({ z with se:=z.se++[x] }:Msr),lc [130,140,150,0,3000,3010],rfl,?_,?_,?_,rfl⟩
   ·exact hstep
   ·(try simp only [List.length_append,List.length_cons,List.length_nil]);omega
   (try simp only [List.length_append,List.length_cons,List.length_nil]);omega
  ·have hnone:dY dR Msr.z s=none:=by rw [fY hs];exact fS hz hln (by rw [hwr];exact hst)
   repeat apply aA
   refine rd ?_
   refine d0 0 ?_
   refine d0 1 ?_
   refine d0 2 ?_
   refine dW 3 [(0,95000)] [] [0] none (spec:=cO [112,108,97,105,110] r) (hent:=dL) ?_
   refine dl 4 (hv:=aMC) (hkk:=xO _) ?_
   refine d0 5 ?_
   refine d0 6 ?_
   refine d0 7 ?_
   refine d0 8 ?_
   refine d0 9 ?_
   refine dz 10 [0,1,0,4,15,31,63,63,127,511] ?_
   refine de 10 ?_
   refine cl [0,3,4,5,6,7,8] ?_
   repeat apply aA
   apply aB
   refine v0 ?_
   refine pc0 (spec:=bH _) (hent:=bX) ?_
   apply aC
   refine cl [0,3,4,5,6,7] ?_
   repeat apply aA
   apply aB
   iterate 2 refine v0 ?_
   refine op0 [(0,95000)] [] [0,0] none (spec:=aGU r 0 false hsr hsp) (hent:=aDz) ?_
   repeat (first|refine aO ?_|refine aN ?_|refine aW ?_)
   exact ⟨rfl,z,aAk [130,140,150,0,3000,3010],rfl,hnone,rfl⟩
  ·have hstep:run dR ((bT s).take (k+1)) Msr.z=some (({ z with se:=z.se++[x] }:Msr)):=by rw [iL hz hln,hwr];exact hst
   repeat apply aA
   refine rd ?_
   refine d0 0 ?_
   refine d0 1 ?_
   refine d0 2 ?_
   refine dW 3 [(0,95000)] [] [0] none (spec:=cO [114,101,118,101,114,115,101,100] r) (hent:=dL) ?_
   refine dl 4 (hv:=aMD) (hkk:=xO _) ?_
   refine d0 5 ?_
   refine d0 6 ?_
   refine d0 7 ?_
   refine d0 8 ?_
   refine d0 9 ?_
   refine dz 10 [0,1,0,4,15,31,63,63,127,511] ?_
   refine de 10 ?_
   refine cl [0,3,4,5,6,7,8] ?_
   repeat apply aA
   apply aB
   refine v0 ?_
   refine pc0 (spec:=bH _) (hent:=bX) ?_
   apply aC
   refine cl [0,3,4,5,6,7] ?_
   repeat apply aA
   apply aB
   iterate 2 refine v0 ?_
   refine oc0 [(0,95000)] [] [0,0] none (spec:=aGT r 1 x hsr hsp) (hent:=aDz) ?_
   refine oc0 [(0,140),(1,3000),(2,3010)] [] [0,0] none (spec:=aES (.int .i64 z.ey.1) (.int .i64 z.ey.2) (.int .i64 z.im) (.int .i64 z.su.1) (.int .i64 z.su.2) rfl rfl rfl rfl rfl z.er z.se x (by omega)) (hent:=aKE) (hg:=by (simp only [cI,gev,aT,Nat.reduceEqDiff,reduceIte,aKN]<;>rfl)) ?_
   apply aC
   refine ⟨_,({ z with se:=z.se++[x] }:Msr),lc [130,140,150,0,3000,3010],rfl,?_,?_,?_,rfl⟩
   ·exact hstep
   ·(try simp only [List.length_append,List.length_cons,List.length_nil]);omega
   (try simp only [List.length_append,List.length_cons,List.length_nil]);omega
  ·have hnone:dY dR Msr.z s=none:=by rw [fY hs];exact fS hz hln (by rw [hwr];exact hst)
   repeat apply aA
   refine rd ?_
   refine d0 0 ?_
   refine d0 1 ?_
   refine d0 2 ?_
   refine dW 3 [(0,95000)] [] [0] none (spec:=cO [114,101,118,101,114,115,101,100] r) (hent:=dL) ?_
   refine dl 4 (hv:=aMD) (hkk:=xO _) ?_
   refine d0 5 ?_
   refine d0 6 ?_
   refine d0 7 ?_
   refine d0 8 ?_
   refine d0 9 ?_
   refine dz 10 [0,1,0,4,15,31,63,63,127,511] ?_
   refine de 10 ?_
   refine cl [0,3,4,5,6,7,8] ?_
   repeat apply aA
   apply aB
   refine v0 ?_
   refine pc0 (spec:=bH _) (hent:=bX) ?_
   apply aC
   refine cl [0,3,4,5,6,7] ?_
   repeat apply aA
   apply aB
   iterate 2 refine v0 ?_
   refine op0 [(0,95000)] [] [0,0] none (spec:=aGU r 1 true hsr hsp) (hent:=aDz) ?_
   repeat (first|refine aO ?_|refine aN ?_|refine aW ?_)
   exact ⟨rfl,z,aAk [130,140,150,0,3000,3010],rfl,hnone,rfl⟩
  have hnone:dY dR Msr.z s=none:=by rw [fY hs];exact fS hz hln (by rw [hwr];exact hst)
  repeat apply aA
  refine rd ?_
  refine d0 0 ?_
  refine d0 1 ?_
  refine d0 2 ?_
  refine dW 3 [(0,95000)] [] [0] none (spec:=cO w r) (hent:=dL) ?_
  refine dl 4 (hv:=aPi hw1 hw2 hw3 hw4) (hkk:=xO _) ?_
  refine d0 5 ?_
  refine d0 6 ?_
  refine d0 7 ?_
  refine d0 8 ?_
  refine d0 9 ?_
  refine dz 10 [0,1,0,4,15,31,63,63,127,511] ?_
  refine de 10 ?_
  refine cl [0,3,4,5,6,7,8] ?_
  repeat apply aA
  apply aB
  refine v0 ?_
  refine pp0 (spec:=cX _) (hent:=bX) ?_
  repeat (first|refine aO ?_|refine aN ?_|refine aW ?_)
  exact ⟨rfl,z,aAk [130,140,150,0,3000,3010],rfl,hnone,rfl⟩
 ·exact hK.elim
 ·obtain ⟨rfl,hn,rfl⟩:=hP
  repeat (first|refine aO ?_|refine aN ?_)
  refine bM ?_
  try refine om (h3:=by simp [bO,dA,G.idl,G.idls,cA,aF,aI]) ?_
  refine eJ [150,140,3000,3010] [(0,150),(1,140),(2,3000),(3,3010)] (spec:=aBE 8 (by omega) (.int .i64 z.ey.1) (.int .i64 z.ey.2) (.int .i64 z.im) (.int .i64 z.su.1) (.int .i64 z.su.2) z.er.length (z.er.map pSp) z.se.length (z.se.map fK)) (hent:=yM) ?_
  refine cM ?_
  refine fk2 [0] ?_
  rw [aME hn]
  rfl
 ·cases ht
 obtain ⟨hz,hzler,hzlse,rfl⟩:=hI
 rw [List.length_map,List.take_length] at hz
 rw [List.length_map] at hzler hzlse
 have hln2:=kQ s
 have hrr:dY dR Msr.z s=some z:=(fY hs).trans hz
 refine xcl [0,3,4,5] ?_
 repeat apply aV
 refine bK ?_
 refine pR 3000 (by (simp only [aF,aI,Nat.reduceEqDiff,reduceIte]<;>rfl)) ?_
 refine pR 3010 (by (simp only [aF,aI,Nat.reduceEqDiff,reduceIte]<;>rfl)) ?_
 refine nH 140 0 .p (by (simp only [aF,aI,Nat.reduceEqDiff,reduceIte]<;>rfl)) (by rfl) (by simp only [cvS,toP,aF,aI,Nat.reduceEqDiff,reduceIte]<;>rfl) (by simp) rfl (by simp only [List.set_cons_zero,List.set_cons_succ]<;>rfl) ?_
 refine nH 140 6 .p (by (simp only [aF,aI,Nat.reduceEqDiff,reduceIte]<;>rfl)) (by rfl) (by simp only [cvS,toP,aF,aI,Nat.reduceEqDiff,reduceIte]<;>rfl) (by simp) rfl (by simp only [List.set_cons_zero,List.set_cons_succ]<;>rfl) ?_
 have hpl:gE z = .agg [.list (z.er.map pSp),.int .i64 z.ey.1,.int .i64 z.ey.2,.int .i64 z.im,.int .i64 z.su.1,.int .i64 z.su.2,.list (z.se.map fK)]:=rfl
 have hcase:(z.valid=true∧txt (gL z)=s)∨(z.valid=true∧txt (gL z)≠s)∨z.valid=false:=by
  cases z.valid with
  |false=>exact .inr (.inr rfl)
  |true=>
       by_cases h2:txt (gL z)=s
       ·exact .inl ⟨rfl,h2⟩
       exact .inr (.inl ⟨rfl,h2⟩)
 rcases hcase with ⟨hv,ht⟩|⟨hv,ht⟩|hv
 ·apply aB
  iterate 2 refine v0 ?_
  refine oc0 [(0,0)] [] [0,0] none (spec:=rH z hv (gG 2)) (hent:=aEC) ?_
  iterate 5 refine v0 ?_
  apply aC
  refine xcl [0,3,4,5,9,10] ?_
  repeat apply aV
  refine bK ?_
  apply aB
  iterate 2 refine v0 ?_
  refine rb 40 true (h:=by (first|with_reducible rfl|exact decide_eq_true (by omega)|rfl|decide)) ?_
  refine v0 ?_
  iterate 3 refine w0 ?_
  refine rb 44 true (h:=by (first|exact decide_eq_true ht|simp [ht])) ?_
  refine v0 ?_
  refine rb 45 true (h:=by (first|with_reducible rfl|exact decide_eq_true (by omega)|rfl|decide)) ?_
  refine pc0 (spec:=bH _) (hent:=bX) ?_
  apply aC
  refine xcl [3,4,5] ?_
  repeat apply aV
  refine bK ?_
  apply aB
  refine v0 ?_
  iterate 2 refine s1 (hc:=uB.h {}) ?_
  apply aC
  repeat apply aV
  refine bK ?_
  refine aL ?_
  repeat (first|refine aH ?_|refine aE ?_|refine aD ?_)
  refine tK ?_
  try refine om (h3:=by simp [bO,dA,G.idl,G.idls,cA,aF,aI]) ?_
  refine eJ [150,140] [(0,150),(1,140)] (spec:=aHC (.list (z.er.map pSp)) (.int .i64 z.ey.1) (.int .i64 z.ey.2) (.int .i64 z.im) (.int .i64 z.su.1) (.int .i64 z.su.2) (.list (z.se.map fK))) (hent:=yM) ?_
  refine cM ?_
  refine fk2 [0] ?_
  rw [aPj hrr hv ht]
  rfl
 ·apply aB
  iterate 2 refine v0 ?_
  refine oc0 [(0,0)] [] [0,0] none (spec:=rH z hv (gG 2)) (hent:=aEC) ?_
  iterate 5 refine v0 ?_
  apply aC
  refine xcl [0,3,4,5,9,10] ?_
  repeat apply aV
  refine bK ?_
  apply aB
  iterate 2 refine v0 ?_
  refine rb 40 true (h:=by (first|with_reducible rfl|exact decide_eq_true (by omega)|rfl|decide)) ?_
  refine v0 ?_
  iterate 3 refine w0 ?_
  refine rb 44 false (h:=by (first|exact decide_eq_false ht|simp [ht])) ?_
  refine v0 ?_
  refine rb 45 false (h:=by (first|with_reducible rfl|exact decide_eq_false (by omega)|rfl|decide)) ?_
  refine pp0 (spec:=cX _) (hent:=bX) ?_
  repeat (first|refine aO ?_|refine aN ?_)
  refine bM ?_
  try refine om (h3:=by simp [bO,dA,G.idl,G.idls,cA,aF,aI]) ?_
  refine eJ [150,140] [(0,150),(1,140)] (spec:=aEN 8 (by omega) (.list (z.er.map pSp)) (.int .i64 z.ey.1) (.int .i64 z.ey.2) (.int .i64 z.im) (.int .i64 z.su.1) (.int .i64 z.su.2) (.list (z.se.map fK))) (hent:=yM) ?_
  refine cM ?_
  refine fk2 [0] ?_
  rw [aMF hrr (.inr ht)]
  rfl
 apply aB
 iterate 2 refine v0 ?_
 refine oc0 [(0,0)] [] [0,0] none (spec:=xC z hv (by omega) (by omega) (gG 2)) (hent:=aEC) ?_
 iterate 5 refine v0 ?_
 apply aC
 refine xcl [0,3,4,5,9,10] ?_
 repeat apply aV
 refine bK ?_
 apply aB
 iterate 2 refine v0 ?_
 refine rb 40 false (h:=by (first|with_reducible rfl|exact decide_eq_false (by omega)|rfl|decide)) ?_
 refine v0 ?_
 iterate 3 refine x0 ?_
 refine v0 ?_
 refine rb 45 false (h:=by (first|with_reducible rfl|exact decide_eq_false (by omega)|rfl|decide)) ?_
 refine pp0 (spec:=cX _) (hent:=bX) ?_
 repeat (first|refine aO ?_|refine aN ?_)
 refine bM ?_
 try refine om (h3:=by simp [bO,dA,G.idl,G.idls,cA,aF,aI]) ?_
 refine eJ [150,140] [(0,150),(1,140)] (spec:=aEN 8 (by omega) (.list (z.er.map pSp)) (.int .i64 z.ey.1) (.int .i64 z.ey.2) (.int .i64 z.im) (.int .i64 z.su.1) (.int .i64 z.su.2) (.list (z.se.map fK))) (hent:=yM) ?_
 refine cM ?_
 refine fk2 [0] ?_
 rw [aMF hrr (.inl hv)]
 rfl
theorem aGf (s:Str) (h:s.length≤4096) (hs:Lib.hasSuffix s [10]=false):Gh.bD E 54 [.p (.str s),.agg [.p (.fn (.func 95) [] []),.map 0,.p (.fn (.func 102) [] [])]] (aG [(0,.map (gG 2))]) A (fun y=>y = .ok (.p (rdM s)) (aG [(0,.map (gG 2))]) A):=by
 refine hE Tryz.func54 (rfl:Tryz.f54.body=some _) (Nat.le_of_ble_eq_true rfl) (fun id h=>?_) (fun j id h=>?_) ?_
 ·exact kA h
 ·exact kB h
 intro C hN hL
 replace hN:C.N=48:=hN
 simp only [Gh.num,List.map_cons,List.map_nil,Nat.reduceAdd]
 repeat apply aV
 refine bK ?_
 apply aB
 refine n1 130 false (hc:=uB.h {}) ?_
 refine n1 140 false (hc:=uB.h {}) ?_
 refine n1 150 false (hc:=uB.h {}) ?_
 apply aC
 refine xcl [0,3,4,5] ?_
 repeat apply aV
 refine bK ?_
 apply aB
 refine v0 ?_
 refine df0 ?_
 apply aC
 refine xcl [0,3,4,5] ?_
 repeat apply aV
 refine bK ?_
 refine ad 140 0 3000 24 2 false ?_
 refine ad 140 6 3010 81 3 false ?_
 apply aB
 iterate 3 refine v0 ?_
 refine rb 14 true (h:=by (first|with_reducible rfl|exact decide_eq_true (by omega)|rfl|decide)) ?_
 refine pc0 (spec:=bH _) (hent:=bX) ?_
 apply aC
 refine xcl [0,3,4,5] ?_
 repeat apply aV
 refine bK ?_
 apply aB
 refine v0 ?_
 refine oc0 [] [] [0] none (spec:=jG s) (hent:=yQ) ?_
 apply aC
 refine xcl [0,3,4,5,17] ?_
 repeat apply aV
 refine iU ?_
 repeat apply aV
 refine rfY 10000 99001 [18] (fun k (z:Msr) A1=>z=Msr.z∧A1=A) (fun z=>[(130,.cells [.p (.fn (.func 95) [] []),.map 0,.p (.fn (.func 102) [] [])] 0),(140,.cells [.own 3000 z.er.length,.p (.int .i64 z.ey.1),.p (.int .i64 z.ey.2),.p (.int .i64 z.im),.p (.int .i64 z.su.1),.p (.int .i64 z.su.2),.own 3010 z.se.length] 0),(150,.cells [.p (.int .i64 0)] 0),(0,.map (gG 2)),(3000,.arr 24 2 (z.er.map pSp) false),(3010,.arr 81 3 (z.se.map fK) false)]) (fun _ (_:Msr) _=>False) (fun _ _=>[]) (fun _ (_:Msr) _=>False) (fun _ z=>[(130,.cells [.p (.fn (.func 95) [] []),.map 0,.p (.fn (.func 102) [] [])] 0),(140,.cells [.own 3000 z.er.length,.p (.int .i64 z.ey.1),.p (.int .i64 z.ey.2),.p (.int .i64 z.im),.p (.int .i64 z.su.1),.p (.int .i64 z.su.2),.own 3010 z.se.length] 0),(150,.cells [.p (.int .i64 0)] 0),(0,.map (gG 2)),(3000,.arr 24 2 (z.er.map pSp) false),(3010,.arr 81 3 (z.se.map fK) false)]) [] [.k] (it:=yS s (by omega) hs) (hent:=yR) (xs:=[]) (tail:=some (.iface 218 (.agg [.int .i64 8]))) (pan:=true) (hlen:=fun x hx=>by cases hx) (hshp:=fun x hx=>by cases hx) (h0:=?_) (round:=fun k z A1 x hI hx lp bs C1 hN1 hL1=>?_) (hK:=fun e z A1 hK=>?_) (hP:=fun p z A1 hP=>?_) (hT:=fun p z A1 ht hT=>?_) (hI:=fun z A1 ht hI=>?_)
 ·exact ⟨Msr.z,⟨rfl,rfl⟩,rfl⟩
 ·cases hx
 ·exact hK.elim
 ·exact hP.elim
 ·cases ht
  obtain ⟨rfl,rfl⟩:=hT
  repeat (first|refine aO ?_|refine aN ?_)
  refine bM ?_
  try refine om (h3:=by simp [bO,dA,G.idl,G.idls,cA,aF,aI]) ?_
  refine eJ [150,140,3000,3010] [(0,150),(1,140),(2,3000),(3,3010)] (spec:=aBE 8 (by omega) (.int .i64 Msr.z.ey.1) (.int .i64 Msr.z.ey.2) (.int .i64 Msr.z.im) (.int .i64 Msr.z.su.1) (.int .i64 Msr.z.su.2) Msr.z.er.length (Msr.z.er.map pSp) Msr.z.se.length (Msr.z.se.map fK)) (hent:=yM) ?_
  refine cM ?_
  refine fk2 [0] ?_
  rw [aME (aDA hs)]
  rfl
 cases ht
theorem aGg (s:Str) (h:4096<s.length):Gh.bD E 54 [.p (.str s),.agg [.p (.fn (.func 95) [] []),.map 0,.p (.fn (.func 102) [] [])]] (aG [(0,.map (gG 2))]) A (fun y=>y = .ok (.p (.tuple [gE Msr.z,.int .i64 3])) (aG [(0,.map (gG 2))]) A):=by
 refine hE Tryz.func54 (rfl:Tryz.f54.body=some _) (Nat.le_of_ble_eq_true rfl) (fun id h=>?_) (fun j id h=>?_) ?_
 ·exact kA h
 ·exact kB h
 intro C hN hL
 replace hN:C.N=48:=hN
 simp only [Gh.num,List.map_cons,List.map_nil,Nat.reduceAdd]
 repeat apply aV
 refine bK ?_
 apply aB
 refine n1 130 false (hc:=uB.h {}) ?_
 refine n1 140 false (hc:=uB.h {}) ?_
 refine n1 150 false (hc:=uB.h {}) ?_
 apply aC
 refine xcl [0,3,4,5] ?_
 repeat apply aV
 refine bK ?_
 apply aB
 refine v0 ?_
 refine df0 ?_
 apply aC
 refine xcl [0,3,4,5] ?_
 repeat apply aV
 refine bK ?_
 refine ad 140 0 3000 24 2 false ?_
 refine ad 140 6 3010 81 3 false ?_
 apply aB
 iterate 3 refine v0 ?_
 refine rb 14 false (h:=by (first|with_reducible rfl|exact decide_eq_false (by omega)|rfl|decide)) ?_
 refine pp0 (spec:=cX _) (hent:=bX) ?_
 repeat (first|refine aO ?_|refine aN ?_)
 refine bM ?_
 try refine om (h3:=by simp [bO,dA,G.idl,G.idls,cA,aF,aI]) ?_
 refine eJ [150,140,3000,3010] [(0,150),(1,140),(2,3000),(3,3010)] (spec:=aBE 3 (by omega) (.int .i64 0) (.int .i64 0) (.int .i64 0) (.int .i64 0) (.int .i64 0) 0 [] 0 []) (hent:=yM) ?_
 refine cM ?_
 refine fk2 [0] ?_
 rfl
theorem aBR (s:Str) (x:P) (h:s.length≤4096) (hx:rdM s=x):Gh.bD E 54 [.p (.str s),.agg [.p (.fn (.func 95) [] []),.map 0,.p (.fn (.func 102) [] [])]] (aG [(0,.map (gG 2))]) A (fun y=>y = .ok (.p x) (aG [(0,.map (gG 2))]) A):=by
 subst hx
 cases hs:Lib.hasSuffix s [10] with
 |true=>exact aGe s h hs
 |false=>exact aGf s h hs
theorem aKP {s:Str} {p:Msr} (h:pK s=some p):rdM s = .tuple [gE p,.int .i64 0]:=by unfold rdM;rw [h]
theorem aKQ {s:Str} (h:pK s=none):rdM s = .tuple [gE Msr.z,.int .i64 8]:=by unfold rdM;rw [h]
theorem aMG:aJ Tryz.prog 16:=aJ.mk Tryz.func16 (by kernel_rfl) rfl
theorem aCJ (s:Str) (p:Msr) (h:s.length≤4096) (hr:pK s=some p):bF Tryz.prog 16 [.str s] (.ok (.tuple [gE p,.int .i64 0])):=by
 refine bL Tryz.func16 (rfl:Tryz.f16.body=some _) rfl ?_
 intro E A C hN hL
 replace hN:C.N=9:=hN
 simp only [Gh.num,List.map_cons,List.map_nil,Nat.reduceAdd]
 unfold gE
 repeat apply aA
 apply aB
 refine n1 120 false (hc:=uB.h {}) ?_
 refine v0 ?_
 apply aC
 refine cl [0,2] ?_
 repeat apply aA
 apply aB
 refine v0 ?_
 refine oc0 [(140,2000)] [] [] none (spec:=oW) (hent:=aEV) ?_
 refine oc0 [(0,2000)] [] [0,0] none (spec:=aBR s _ h (aKP hr)) (hent:=aKO) ?_
 iterate 2 refine v0 ?_
 refine s1 (hc:=uB.h {}) ?_
 refine v0 ?_
 apply aC
 repeat apply aA
 refine aL ?_
 repeat (first|refine aH ?_|refine aE ?_|refine aD ?_)
 refine aM ?_
 refine fp2 ?_
 rfl
theorem aIz (s:Str) (h:s.length≤4096) (hr:pK s=none):bF Tryz.prog 16 [.str s] (.ok (.tuple [gE Msr.z,.int .i64 8])):=by
 refine bL Tryz.func16 (rfl:Tryz.f16.body=some _) rfl ?_
 intro E A C hN hL
 replace hN:C.N=9:=hN
 simp only [Gh.num,List.map_cons,List.map_nil,Nat.reduceAdd]
 unfold gE
 repeat apply aA
 apply aB
 refine n1 120 false (hc:=uB.h {}) ?_
 refine v0 ?_
 apply aC
 refine cl [0,2] ?_
 repeat apply aA
 apply aB
 refine v0 ?_
 refine oc0 [(140,2000)] [] [] none (spec:=oW) (hent:=aEV) ?_
 refine oc0 [(0,2000)] [] [0,0] none (spec:=aBR s _ h (aKQ hr)) (hent:=aKO) ?_
 iterate 2 refine v0 ?_
 refine s1 (hc:=uB.h {}) ?_
 refine v0 ?_
 apply aC
 repeat apply aA
 refine aL ?_
 repeat (first|refine aH ?_|refine aE ?_|refine aD ?_)
 refine aM ?_
 refine fp2 ?_
 rfl
theorem aIA (s:Str) (h:4096<s.length):bF Tryz.prog 16 [.str s] (.ok (.tuple [gE Msr.z,.int .i64 3])):=by
 refine bL Tryz.func16 (rfl:Tryz.f16.body=some _) rfl ?_
 intro E A C hN hL
 replace hN:C.N=9:=hN
 simp only [Gh.num,List.map_cons,List.map_nil,Nat.reduceAdd]
 unfold gE
 repeat apply aA
 apply aB
 refine n1 120 false (hc:=uB.h {}) ?_
 refine v0 ?_
 apply aC
 refine cl [0,2] ?_
 repeat apply aA
 apply aB
 refine v0 ?_
 refine oc0 [(140,2000)] [] [] none (spec:=oW) (hent:=aEV) ?_
 refine oc0 [(0,2000)] [] [0,0] none (spec:=aGg s h) (hent:=aKO) ?_
 iterate 2 refine v0 ?_
 refine s1 (hc:=uB.h {}) ?_
 refine v0 ?_
 apply aC
 repeat apply aA
 refine aL ?_
 repeat (first|refine aH ?_|refine aE ?_|refine aD ?_)
 refine aM ?_
 refine fp2 ?_
 rfl
end
section
open Go.Gh
theorem aPk:Tryz.prog.underlying 81=some (.struct #[⟨"Image",3,0,false,"","",0⟩,⟨"Reading",3,1,false,"","",8⟩,⟨"Reversed",4,2,false,"","",16⟩]):=by kernel_rfl
theorem aPl:Tryz.prog.underlying 84=some (.struct #[⟨"X",24,0,false,"","",0⟩,⟨"Y",24,2,false,"","",16⟩,⟨"Known",4,4,false,"","",32⟩,⟨"East",24,5,false,"","",40⟩,⟨"North",24,7,false,"","",56⟩]):=by kernel_rfl
theorem aPm:Tryz.prog.underlying 86=some (.struct #[⟨"Plate",3,0,false,"","",0⟩,⟨"From",3,1,false,"","",8⟩,⟨"To",3,2,false,"","",16⟩]):=by kernel_rfl
theorem aPn:Tryz.prog.underlying 79=some (.struct #[⟨"East",24,0,false,"","",0⟩,⟨"North",24,2,false,"","",16⟩]):=by kernel_rfl
theorem aOu:Tryz.prog.underlying 126=some (.array 2 3):=by kernel_rfl
theorem aPL:Tryz.prog.underlying 4=some .bool:=by kernel_rfl
theorem uN (d:Nat) (a c:Bool):geq Tryz.prog (d+1) 4 (.bool a) (.bool c)=some (decide (a=c)):=by
 unfold geq
 rw [aPL]
 cases a<;>cases c<;>rfl
instance decSpt:DecidableEq Spt:=fun a b=>if h:a.e=b.e∧a.n=b.n then isTrue (by cases a;cases b;simp_all) else isFalse fun e=>h (by subst e;exact ⟨rfl,rfl⟩)
instance decStg:DecidableEq Stg:=fun a b=>if h:a.im=b.im∧a.rd=b.rd∧a.rv=b.rv then isTrue (by cases a;cases b;simp_all) else isFalse fun e=>h (by subst e;exact ⟨rfl,rfl,rfl⟩)
instance decStar:DecidableEq nB:=fun a b=>if h:a.x=b.x∧a.y=b.y∧a.kn=b.kn∧a.e=b.e∧a.n=b.n then isTrue (by cases a;cases b;simp_all) else isFalse fun e=>h (by subst e;exact ⟨rfl,rfl,rfl,rfl,rfl⟩)
theorem aOv (d:Nat) (a0 c0:Int) (a1 c1:Int) (a2 c2:Bool):geq Tryz.prog (d+3) 81 (.agg [.int .i64 a0,.int .i64 a1,.bool a2]) (.agg [.int .i64 c0,.int .i64 c1,.bool c2])=some (decide ((⟨a0,a1,a2⟩:Stg)=(⟨c0,c1,c2⟩:Stg))):=by
 unfold geq
 rw [aPk]
 have hs:Tryz.prog.stoodInHeld 81=false:=by kernel_rfl
 have p0:∀(u0:Int) (u1:Int) (u2:Bool),dE Tryz.prog 3 [.int .i64 u0,.int .i64 u1,.bool u2] 0=some (.int .i64 u0):=fun u0 u1 u2=>by unfold dE;rw [oX];rfl
 have p1:∀(u0:Int) (u1:Int) (u2:Bool),dE Tryz.prog 3 [.int .i64 u0,.int .i64 u1,.bool u2] 1=some (.int .i64 u1):=fun u0 u1 u2=>by unfold dE;rw [oX];rfl
 have p2:∀(u0:Int) (u1:Int) (u2:Bool),dE Tryz.prog 4 [.int .i64 u0,.int .i64 u1,.bool u2] 2=some (.bool u2):=fun u0 u1 u2=>by unfold dE;rw [wZ];rfl
 simp only [hs,Bool.false_eq_true,if_false,List.map_cons,List.map_nil,p0,p1,p2,qK,uN,qL,nV]
 simp [nV]
theorem aDC (d:Nat) (a0 c0 a1 c1:Int):geq Tryz.prog (d+3) 24 (.agg [.int .i64 a0,.int .i64 a1]) (.agg [.int .i64 c0,.int .i64 c1])=some (decide (((a0,a1):Int×Int)=((c0,c1):Int×Int))):=by
 rw [qL]
 simp
theorem aOw (d:Nat) (a0 c0:Int) (a1 c1:Int) (a2 c2:Int):geq Tryz.prog (d+3) 86 (.agg [.int .i64 a0,.int .i64 a1,.int .i64 a2]) (.agg [.int .i64 c0,.int .i64 c1,.int .i64 c2])=some (decide (((a0,a1,a2):Int×Int×Int)=((c0,c1,c2):Int×Int×Int))):=by
 unfold geq
 rw [aPm]
 have hs:Tryz.prog.stoodInHeld 86=false:=by kernel_rfl
 have p0:∀(u0:Int) (u1:Int) (u2:Int),dE Tryz.prog 3 [.int .i64 u0,.int .i64 u1,.int .i64 u2] 0=some (.int .i64 u0):=fun u0 u1 u2=>by unfold dE;rw [oX];rfl
 have p1:∀(u0:Int) (u1:Int) (u2:Int),dE Tryz.prog 3 [.int .i64 u0,.int .i64 u1,.int .i64 u2] 1=some (.int .i64 u1):=fun u0 u1 u2=>by unfold dE;rw [oX];rfl
 have p2:∀(u0:Int) (u1:Int) (u2:Int),dE Tryz.prog 3 [.int .i64 u0,.int .i64 u1,.int .i64 u2] 2=some (.int .i64 u2):=fun u0 u1 u2=>by unfold dE;rw [oX];rfl
 simp only [hs,Bool.false_eq_true,if_false,List.map_cons,List.map_nil,p0,p1,p2,qK,uN,qL,nV]
 simp [nV]
theorem aL0 (d:Nat) (a0 c0:Int) (a1 c1:Int):geq Tryz.prog (d+3) 126 (.agg [.int .i64 a0,.int .i64 a1]) (.agg [.int .i64 c0,.int .i64 c1])=some (decide (((a0,a1):Int×Int)=((c0,c1):Int×Int))):=by
 unfold geq
 rw [aOu]
 have p0:∀(u0:Int) (u1:Int),dE Tryz.prog 3 [.int .i64 u0,.int .i64 u1] 0=some (.int .i64 u0):=fun u0 u1=>by unfold dE;rw [oX];rfl
 have p1:∀(u0:Int) (u1:Int),dE Tryz.prog 3 [.int .i64 u0,.int .i64 u1] 1=some (.int .i64 u1):=fun u0 u1=>by unfold dE;rw [oX];rfl
 simp only [oX,show List.range 2=[0,1] from rfl,List.map_cons,List.map_nil,Nat.zero_mul,Nat.one_mul,p0,p1,qK,nV]
 simp [nV]
theorem aOx (d:Nat) (a0 c0:Int) (a1 c1:Int) (a2 c2:Int) (a3 c3:Int):geq Tryz.prog (d+3) 79 (.agg [.int .i64 a0,.int .i64 a1,.int .i64 a2,.int .i64 a3]) (.agg [.int .i64 c0,.int .i64 c1,.int .i64 c2,.int .i64 c3])=some (decide ((⟨(a0,a1),(a2,a3)⟩:Spt)=(⟨(c0,c1),(c2,c3)⟩:Spt))):=by
 unfold geq
 rw [aPn]
 have hs:Tryz.prog.stoodInHeld 79=false:=by kernel_rfl
 have p0:∀(u0:Int) (u1:Int) (u2:Int) (u3:Int),dE Tryz.prog 24 [.int .i64 u0,.int .i64 u1,.int .i64 u2,.int .i64 u3] 0=some (.agg [.int .i64 u0,.int .i64 u1]):=fun u0 u1 u2 u3=>by unfold dE;rw [kG];rfl
 have p1:∀(u0:Int) (u1:Int) (u2:Int) (u3:Int),dE Tryz.prog 24 [.int .i64 u0,.int .i64 u1,.int .i64 u2,.int .i64 u3] 2=some (.agg [.int .i64 u2,.int .i64 u3]):=fun u0 u1 u2 u3=>by unfold dE;rw [kG];rfl
 simp only [hs,Bool.false_eq_true,if_false,List.map_cons,List.map_nil,p0,p1,qK,uN,qL,nV]
 simp [nV]
theorem aOy (d:Nat) (a0 c0:Int) (a1 c1:Int) (a2 c2:Int) (a3 c3:Int) (a4 c4:Bool) (a5 c5:Int) (a6 c6:Int) (a7 c7:Int) (a8 c8:Int):geq Tryz.prog (d+3) 84 (.agg [.int .i64 a0,.int .i64 a1,.int .i64 a2,.int .i64 a3,.bool a4,.int .i64 a5,.int .i64 a6,.int .i64 a7,.int .i64 a8]) (.agg [.int .i64 c0,.int .i64 c1,.int .i64 c2,.int .i64 c3,.bool c4,.int .i64 c5,.int .i64 c6,.int .i64 c7,.int .i64 c8])=some (decide ((⟨(a0,a1),(a2,a3),a4,(a5,a6),(a7,a8)⟩:nB)=(⟨(c0,c1),(c2,c3),c4,(c5,c6),(c7,c8)⟩:nB))):=by
 unfold geq
 rw [aPl]
 have hs:Tryz.prog.stoodInHeld 84=false:=by kernel_rfl
 have p0:∀(u0:Int) (u1:Int) (u2:Int) (u3:Int) (u4:Bool) (u5:Int) (u6:Int) (u7:Int) (u8:Int),dE Tryz.prog 24 [.int .i64 u0,.int .i64 u1,.int .i64 u2,.int .i64 u3,.bool u4,.int .i64 u5,.int .i64 u6,.int .i64 u7,.int .i64 u8] 0=some (.agg [.int .i64 u0,.int .i64 u1]):=fun u0 u1 u2 u3 u4 u5 u6 u7 u8=>by unfold dE;rw [kG];rfl
 have p1:∀(u0:Int) (u1:Int) (u2:Int) (u3:Int) (u4:Bool) (u5:Int) (u6:Int) (u7:Int) (u8:Int),dE Tryz.prog 24 [.int .i64 u0,.int .i64 u1,.int .i64 u2,.int .i64 u3,.bool u4,.int .i64 u5,.int .i64 u6,.int .i64 u7,.int .i64 u8] 2=some (.agg [.int .i64 u2,.int .i64 u3]):=fun u0 u1 u2 u3 u4 u5 u6 u7 u8=>by unfold dE;rw [kG];rfl
 have p2:∀(u0:Int) (u1:Int) (u2:Int) (u3:Int) (u4:Bool) (u5:Int) (u6:Int) (u7:Int) (u8:Int),dE Tryz.prog 4 [.int .i64 u0,.int .i64 u1,.int .i64 u2,.int .i64 u3,.bool u4,.int .i64 u5,.int .i64 u6,.int .i64 u7,.int .i64 u8] 4=some (.bool u4):=fun u0 u1 u2 u3 u4 u5 u6 u7 u8=>by unfold dE;rw [wZ];rfl
 have p3:∀(u0:Int) (u1:Int) (u2:Int) (u3:Int) (u4:Bool) (u5:Int) (u6:Int) (u7:Int) (u8:Int),dE Tryz.prog 24 [.int .i64 u0,.int .i64 u1,.int .i64 u2,.int .i64 u3,.bool u4,.int .i64 u5,.int .i64 u6,.int .i64 u7,.int .i64 u8] 5=some (.agg [.int .i64 u5,.int .i64 u6]):=fun u0 u1 u2 u3 u4 u5 u6 u7 u8=>by unfold dE;rw [kG];rfl
 have p4:∀(u0:Int) (u1:Int) (u2:Int) (u3:Int) (u4:Bool) (u5:Int) (u6:Int) (u7:Int) (u8:Int),dE Tryz.prog 24 [.int .i64 u0,.int .i64 u1,.int .i64 u2,.int .i64 u3,.bool u4,.int .i64 u5,.int .i64 u6,.int .i64 u7,.int .i64 u8] 7=some (.agg [.int .i64 u7,.int .i64 u8]):=fun u0 u1 u2 u3 u4 u5 u6 u7 u8=>by unfold dE;rw [kG];rfl
 simp only [hs,Bool.false_eq_true,if_false,List.map_cons,List.map_nil,p0,p1,p2,p3,p4,qK,uN,qL,nV]
 simp [nV]
instance decMsr:DecidableEq Msr:=fun a b=>if h:a.im=b.im∧a.su=b.su∧a.ey=b.ey∧a.er=b.er∧a.se=b.se then isTrue (by cases a;cases b;simp_all) else isFalse fun e=>h (by subst e;exact ⟨rfl,rfl,rfl,rfl,rfl⟩)
instance decPlt:DecidableEq Plt:=fun a b=>if h:a.sc=b.sc∧a.st=b.st then isTrue (by cases a;cases b;simp_all) else isFalse fun e=>h (by subst e;exact ⟨rfl,rfl⟩)
instance decChn:DecidableEq Chn:=fun a b=>if h:a.pl=b.pl∧a.ps=b.ps∧a.kn=b.kn∧a.rs=b.rs∧a.ms=b.ms then isTrue (by cases a;cases b;simp_all) else isFalse fun e=>h (by subst e;exact ⟨rfl,rfl,rfl,rfl,rfl⟩)
instance decNgt:DecidableEq Ngt:=fun a b=>if h:a.day=b.day∧a.sp=b.sp then isTrue (by cases a;cases b;simp_all) else isFalse fun e=>h (by subst e;exact ⟨rfl,rfl⟩)
instance decSch:DecidableEq Sch:=fun a b=>if h:a.v=b.v∧a.ni=b.ni∧a.st=b.st then isTrue (by cases a;cases b;simp_all) else isFalse fun e=>h (by subst e;exact ⟨rfl,rfl,rfl⟩)
theorem dG {α:Type} {a b:List α} {k:Nat} (h:a.take k=b.take k) (h1:a.length≤k) (h2:b.length≤k):a=b:=by
 rw [List.take_of_length_le h1,List.take_of_length_le h2] at h;exact h
theorem kR {α:Type} {a b:List α} {k:Nat} {x y:α} (ha:a[k]? = some x) (hb:b[k]? = some y) (h:a.take k=b.take k) (e:x=y):a.take (k+1)=b.take (k+1):=by rw [List.take_add_one,List.take_add_one,ha,hb,h,e]
theorem dZ {α:Type} {a b:List α} {k:Nat} {x y:α} (ha:a[k]? = some x) (hb:b[k]? = some y) (e:¬x=y):¬a=b:=fun h=>by subst h;rw [ha] at hb;cases hb;exact e rfl
end
section
open Go.Gh
structure rN (c:Prop):Prop where
 h:c:=by (first|exact True.intro|omega|(simp only [inI];omega)|(simp [P.size];done)|((repeat' apply And.intro)<;>(first|trivial|omega|(simp only [List.length_map];omega)|(intro z hz;obtain ⟨y,_,rfl⟩:=List.mem_map.1 hz;rfl));done)|kernel_rfl|omega|(simp only [inI];omega)|(simp [P.size,bU,bG,bR,bB,cS,good,G.one,P.one,P.cells]<;>first|omega|assumption|simp_all))
theorem aPo:aJ Tryz.prog 61:=aJ.mk Tryz.func61 (by kernel_rfl) rfl
theorem aKR (a b:List (Int×Int)) (ha:a.length≤1048576) (hb:b.length≤1048576):bF Tryz.prog 61 [.list (a.map pSp),.list (b.map pSp)] (.ok (.bool (decide (a=b)))):=by
 refine bL Tryz.func61 (rfl:Tryz.f61.body=some _) rfl ?_
 intro E A C hN hL
 replace hN:C.N=26:=hN
 simp only [Gh.num,List.map_cons,List.map_nil,Nat.reduceAdd]
 have hpsp:∀s:Int×Int,pSp s = .agg [.int .i64 s.1,.int .i64 s.2]:=fun _=>rfl
 have hg24:=aDC 3
 repeat apply aA
 apply aB
 refine v0 ?_
 apply aC
 refine cl [0,1] ?_
 repeat apply aA
 apply aB
 iterate 5 refine v0 ?_
 apply aC
 repeat apply aA
 refine cB (k1:=fun hb1=>?_) (k0:=fun hb1=>?_)
 ·replace hb1:=hB.h {} hb1
  try rw [eqI] at hb1
  repeat apply aA
  apply aB
  refine v0 ?_
  apply aC
  repeat apply aA
  refine aL ?_
  repeat (first|refine aH ?_|refine aE ?_|refine aD ?_)
  refine aM ?_
  refine fp ?_
  simp only [dT.at,cL.ok.injEq,G.p.injEq,P.bool.injEq,true_and,and_true]
  first
  |(rw [decide_eq_false (fun e:a=b=>by subst e;omega)];done)
  |(rw [decide_eq_false (dZ hx hy (by assumption))];done)
  |(rw [decide_eq_true (dG htk (by omega) (by omega))];done)
 replace hb1:=hB.h {} hb1
 try rw [eqI] at hb1
 repeat apply aA
 refine aQ ?_
 refine cl [0,1] ?_
 repeat apply aA
 apply aB
 refine v0 ?_
 apply aC
 refine cl [0,1,5] ?_
 repeat apply aA
 refine aP ?_
 repeat apply aA
 refine cJ (fun mz σ=>∃k:Nat,(k≤a.length)∧(a.length≤b.length∧b.length≤a.length)∧(a.take k=b.take k)∧mz=a.length - k∧σ=(sg [(0,.p (.list (a.map pSp))),(1,.p (.list (b.map pSp))),(5,.p (.int .i64 (k:Nat)))] [] A []:Sg E)) ?_ (fun mz σ hI=>?_)
 ·refine gA [0,1,5] ?_
  exact ⟨_,0,by omega,⟨by omega,by omega⟩,rfl,rfl,rfl⟩
 obtain ⟨k,hk,⟨hab1,hab2⟩,htk,hnn,rfl⟩:=hI
 repeat apply aA
 apply aB
 iterate 4 refine v0 ?_
 apply aC
 repeat apply aA
 refine cB (k1:=fun hb2=>?_) (k0:=fun hb2=>?_)
 ·replace hb2:=hB.h {} hb2
  try rw [eqI] at hb2
  repeat apply aA
  refine aQ ?_
  refine cl [0,1,5] ?_
  repeat apply aA
  refine aP ?_
  repeat apply aA
  obtain ⟨x,hx⟩:=fT (l:=a) (k:=k) (by omega)
  obtain ⟨y,hy⟩:=fT (l:=b) (k:=k) (by omega)
  refine rd ?_
  refine d0 0 ?_
  refine d0 1 ?_
  refine d1 2 (hc:=rN.h {}) ?_
  refine d0 3 ?_
  refine d0 4 ?_
  refine d0 5 ?_
  refine d1 6 (hc:=rN.h {}) ?_
  refine d0 7 ?_
  refine d1 8 (hc:=rN.h {}) ?_
  refine dz 9 [0,0,3,7,0,0,48,112,255] ?_
  refine de 9 ?_
  repeat apply aA
  refine cB (k1:=fun hb3=>?_) (k0:=fun hb3=>?_)
  ·replace hb3:=hB.h {} hb3
   try rw [eqI] at hb3
   repeat apply aA
   apply aB
   refine v0 ?_
   apply aC
   repeat apply aA
   refine aL ?_
   repeat (first|refine aH ?_|refine aE ?_|refine aD ?_)
   refine aM ?_
   refine fp ?_
   simp only [dT.at,cL.ok.injEq,G.p.injEq,P.bool.injEq,true_and,and_true]
   first
   |(rw [decide_eq_false (fun e:a=b=>by subst e;omega)];done)
   |(rw [decide_eq_false (dZ hx hy (by assumption))];done)
   |(rw [decide_eq_true (dG htk (by omega) (by omega))];done)
  replace hb3:=hB.h {} hb3
  try rw [eqI] at hb3
  repeat apply aA
  refine aQ ?_
  refine cl [0,1,5] ?_
  repeat apply aA
  apply aB
  refine v0 ?_
  refine v1 (hc:=rN.h {}) ?_
  refine v0 ?_
  apply aC
  refine dN [0,1,5] (h:=?_) (hV:=?_) (n':=a.length - (k+1))
  ·omega
  exact ⟨k+1,by omega,⟨hab1,hab2⟩,kR hx hy htk (by assumption),rfl,rfl⟩
 replace hb2:=hB.h {} hb2
 try rw [eqI] at hb2
 repeat apply aA
 refine bY ?_
 repeat (first|refine bI ?_|refine aY ?_|refine bC ?_|refine bJ rfl ?_)
 refine cl [] ?_
 repeat apply aA
 apply aB
 refine v0 ?_
 apply aC
 repeat apply aA
 refine aL ?_
 repeat (first|refine aH ?_|refine aE ?_|refine aD ?_)
 refine aM ?_
 refine fp ?_
 simp only [dT.at,cL.ok.injEq,G.p.injEq,P.bool.injEq,true_and,and_true]
 first
 |(rw [decide_eq_false (fun e:a=b=>by subst e;omega)];done)
 |(rw [decide_eq_false (dZ hx hy (by assumption))];done)
 |(rw [decide_eq_true (dG htk (by omega) (by omega))];done)
theorem zG {a b:Msr} (h1:a.im=b.im) (h2:(a.su.1,a.su.2)=(b.su.1,b.su.2)) (h3:(a.ey.1,a.ey.2)=(b.ey.1,b.ey.2)) (h4:a.se=b.se):decide (a.er=b.er)=decide (a=b):=by
 replace h2:a.su=b.su:=h2
 replace h3:a.ey=b.ey:=h3
 refine decide_eq_decide.2 ⟨fun e=>?_,fun e=>by rw [e]⟩
 cases a;cases b;simp_all
theorem aGh {a b:Plt} (h4:a.st=b.st):decide ((a.sc.1,a.sc.2)=(b.sc.1,b.sc.2))=decide (a=b):=by
 refine decide_eq_decide.2 ⟨fun e=>?_,fun e=>by rw [e]⟩
 replace e:a.sc=b.sc:=e
 cases a;cases b;simp_all
theorem wC {a b:Chn} (h1:a.pl=b.pl) (h2:a.ps=b.ps) (h3:a.kn=b.kn) (h4:a.rs=b.rs):decide (a.ms=b.ms)=decide (a=b):=by
 refine decide_eq_decide.2 ⟨fun e=>?_,fun e=>by rw [e]⟩
 cases a;cases b;simp_all
theorem zH {a b:Sch} (h1:(a.v.1,a.v.2)=(b.v.1,b.v.2)) (h4:a.ni=b.ni):decide (a.st=b.st)=decide (a=b):=by
 replace h1:a.v=b.v:=h1
 refine decide_eq_decide.2 ⟨fun e=>?_,fun e=>by rw [e]⟩
 cases a;cases b;simp_all
theorem aMH:aJ Tryz.prog 22:=aJ.mk Tryz.func22 (by kernel_rfl) rfl
theorem aGW (a b:Msr) (h1:a.er.length≤1048576) (h2:b.er.length≤1048576) (h3:a.se.length≤1048576) (h4:b.se.length≤1048576):bF Tryz.prog 22 [gE a,gE b] (.ok (.bool (decide (a=b)))):=by
 refine bL Tryz.func22 (rfl:Tryz.f22.body=some _) rfl ?_
 intro E A C hN hL
 replace hN:C.N=61:=hN
 simp only [Gh.num,List.map_cons,List.map_nil,Nat.reduceAdd]
 have hpsp:∀s:Int×Int,pSp s = .agg [.int .i64 s.1,.int .i64 s.2]:=fun _=>rfl
 have hpsg:∀s:Stg,fK s = .agg [.int .i64 s.im,.int .i64 s.rd,.bool s.rv]:=fun _=>rfl
 have hg24:=aDC 3
 have hg81:=aOv 3
 unfold gE
 repeat apply aA
 apply aB
 refine n1 120 false (hc:=rN.h {}) ?_
 refine n1 130 false (hc:=rN.h {}) ?_
 refine v0 ?_
 apply aC
 refine cl [2,3] ?_
 repeat apply aA
 apply aB
 iterate 7 refine v0 ?_
 apply aC
 repeat apply aA
 refine cB (k1:=fun hb1=>?_) (k0:=fun hb1=>?_)
 ·replace hb1:=hB.h {} hb1
  try rw [eqI] at hb1
  repeat apply aA
  apply aB
  refine v0 ?_
  apply aC
  repeat apply aA
  refine aL ?_
  repeat (first|refine aH ?_|refine aE ?_|refine aD ?_)
  refine aM ?_
  refine fp ?_
  simp only [dT.at,cL.ok.injEq,G.p.injEq,P.bool.injEq,true_and,and_true]
  first
  |(rw [decide_eq_false (fun e:a=b=>by subst e;omega)];done)
  |(rw [decide_eq_false (fun e:a=b=>dZ hx hy (by assumption) (by rw [e]))];done)
  |(rw [decide_eq_false (fun e:a=b=>by subst e;simp_all)];done)
  |exact (zG (by omega) (by assumption) (by assumption) (dG htk (by omega) (by omega)))
 replace hb1:=hB.h {} hb1
 try rw [eqI] at hb1
 repeat apply aA
 refine aQ ?_
 refine cl [2,3] ?_
 repeat apply aA
 apply aB
 refine v0 ?_
 apply aC
 refine cl [2,3,5] ?_
 repeat apply aA
 refine aP ?_
 repeat apply aA
 refine cJ (fun mz σ=>∃k:Nat,(k≤a.se.length)∧(a.se.length≤b.se.length∧b.se.length≤a.se.length)∧(a.se.take k=b.se.take k)∧mz=a.se.length - k∧σ=(sg [(2,.ref 120 0),(3,.ref 130 0),(5,.p (.int .i64 (k:Nat)))] [(120,.cells [.p (.list (a.er.map pSp)),.p (.int .i64 a.ey.1),.p (.int .i64 a.ey.2),.p (.int .i64 a.im),.p (.int .i64 a.su.1),.p (.int .i64 a.su.2),.p (.list (a.se.map fK))] 0),(130,.cells [.p (.list (b.er.map pSp)),.p (.int .i64 b.ey.1),.p (.int .i64 b.ey.2),.p (.int .i64 b.im),.p (.int .i64 b.su.1),.p (.int .i64 b.su.2),.p (.list (b.se.map fK))] 0)] A []:Sg E)) ?_ (fun mz σ hI=>?_)
 ·refine gA [2,3,5] ?_
  exact ⟨_,0,by omega,⟨by omega,by omega⟩,rfl,rfl,rfl⟩
 obtain ⟨k,hk,⟨hab1,hab2⟩,htk,hnn,rfl⟩:=hI
 repeat apply aA
 apply aB
 iterate 5 refine v0 ?_
 apply aC
 repeat apply aA
 refine cB (k1:=fun hb2=>?_) (k0:=fun hb2=>?_)
 ·replace hb2:=hB.h {} hb2
  try rw [eqI] at hb2
  repeat apply aA
  refine aQ ?_
  refine cl [2,3,5] ?_
  repeat apply aA
  refine aP ?_
  repeat apply aA
  obtain ⟨x,hx⟩:=fT (l:=a.se) (k:=k) (by omega)
  obtain ⟨y,hy⟩:=fT (l:=b.se) (k:=k) (by omega)
  refine rd ?_
  refine d0 0 ?_
  refine d0 1 ?_
  refine d0 2 ?_
  refine d1 3 (hc:=rN.h {}) ?_
  refine d0 4 ?_
  refine d0 5 ?_
  refine d0 6 ?_
  refine d0 7 ?_
  refine d1 8 (hc:=rN.h {}) ?_
  refine d0 9 ?_
  refine d1 10 (hc:=rN.h {}) ?_
  refine dz 11 [0,1,0,7,15,0,32,0,224,480,1023] ?_
  refine de 11 ?_
  repeat apply aA
  refine cB (k1:=fun hb3=>?_) (k0:=fun hb3=>?_)
  ·replace hb3:=hB.h {} hb3
   try rw [eqI] at hb3
   repeat apply aA
   apply aB
   refine v0 ?_
   apply aC
   repeat apply aA
   refine aL ?_
   repeat (first|refine aH ?_|refine aE ?_|refine aD ?_)
   refine aM ?_
   refine fp ?_
   simp only [dT.at,cL.ok.injEq,G.p.injEq,P.bool.injEq,true_and,and_true]
   first
   |(rw [decide_eq_false (fun e:a=b=>by subst e;omega)];done)
   |(rw [decide_eq_false (fun e:a=b=>dZ hx hy (by assumption) (by rw [e]))];done)
   |(rw [decide_eq_false (fun e:a=b=>by subst e;simp_all)];done)
   |exact (zG (by omega) (by assumption) (by assumption) (dG htk (by omega) (by omega)))
  replace hb3:=hB.h {} hb3
  try rw [eqI] at hb3
  repeat apply aA
  refine aQ ?_
  refine cl [2,3,5] ?_
  repeat apply aA
  apply aB
  refine v0 ?_
  refine v1 (hc:=rN.h {}) ?_
  refine v0 ?_
  apply aC
  refine dN [2,3,5] (h:=?_) (hV:=?_) (n':=a.se.length - (k+1))
  ·omega
  exact ⟨k+1,by omega,⟨hab1,hab2⟩,kR hx hy htk (by assumption),rfl,rfl⟩
 replace hb2:=hB.h {} hb2
 try rw [eqI] at hb2
 repeat apply aA
 refine bY ?_
 repeat (first|refine bI ?_|refine aY ?_|refine bC ?_|refine bJ rfl ?_)
 refine cl [2,3] ?_
 repeat apply aA
 apply aB
 iterate 6 refine v0 ?_
 refine b0 (k1:=fun hb4=>?_) (k0:=fun hb4=>?_)
 ·replace hb4:=hB.h {} hb4
  try rw [eqI] at hb4
  iterate 4 refine w0 ?_
  refine w1 (hc:=rN.h {}) ?_
  iterate 2 refine v0 ?_
  refine b0 (k1:=fun hb5=>?_) (k0:=fun hb5=>?_)
  ·replace hb5:=hB.h {} hb5
   try rw [eqI] at hb5
   iterate 6 refine w0 ?_
   refine w1 (hc:=rN.h {}) ?_
   iterate 2 refine v0 ?_
   refine b0 (k1:=fun hb6=>?_) (k0:=fun hb6=>?_)
   ·replace hb6:=hB.h {} hb6
    try rw [eqI] at hb6
    iterate 6 refine w0 ?_
    refine pcw (spec:=aKR a.er b.er h1 h2) (hent:=aPo) ?_
    iterate 2 refine v0 ?_
    apply aC
    repeat apply aA
    refine aL ?_
    repeat (first|refine aH ?_|refine aE ?_|refine aD ?_)
    refine aM ?_
    refine fp ?_
    simp only [dT.at,cL.ok.injEq,G.p.injEq,P.bool.injEq,true_and,and_true]
    first
    |(rw [decide_eq_false (fun e:a=b=>by subst e;omega)];done)
    |(rw [decide_eq_false (fun e:a=b=>dZ hx hy (by assumption) (by rw [e]))];done)
    |(rw [decide_eq_false (fun e:a=b=>by subst e;simp_all)];done)
    |exact (zG (by omega) (by assumption) (by assumption) (dG htk (by omega) (by omega)))
   replace hb6:=hB.h {} hb6
   try rw [eqI] at hb6
   iterate 7 refine x0 ?_
   iterate 2 refine v0 ?_
   apply aC
   repeat apply aA
   refine aL ?_
   repeat (first|refine aH ?_|refine aE ?_|refine aD ?_)
   refine aM ?_
   refine fp ?_
   simp only [dT.at,cL.ok.injEq,G.p.injEq,P.bool.injEq,true_and,and_true]
   first
   |(rw [decide_eq_false (fun e:a=b=>by subst e;omega)];done)
   |(rw [decide_eq_false (fun e:a=b=>dZ hx hy (by assumption) (by rw [e]))];done)
   |(rw [decide_eq_false (fun e:a=b=>by subst e;simp_all)];done)
   |exact (zG (by omega) (by assumption) (by assumption) (dG htk (by omega) (by omega)))
  replace hb5:=hB.h {} hb5
  try rw [eqI] at hb5
  iterate 7 refine x0 ?_
  iterate 2 refine v0 ?_
  iterate 7 refine x0 ?_
  iterate 2 refine v0 ?_
  apply aC
  repeat apply aA
  refine aL ?_
  repeat (first|refine aH ?_|refine aE ?_|refine aD ?_)
  refine aM ?_
  refine fp ?_
  simp only [dT.at,cL.ok.injEq,G.p.injEq,P.bool.injEq,true_and,and_true]
  first
  |(rw [decide_eq_false (fun e:a=b=>by subst e;omega)];done)
  |(rw [decide_eq_false (fun e:a=b=>dZ hx hy (by assumption) (by rw [e]))];done)
  |(rw [decide_eq_false (fun e:a=b=>by subst e;simp_all)];done)
  |exact (zG (by omega) (by assumption) (by assumption) (dG htk (by omega) (by omega)))
 replace hb4:=hB.h {} hb4
 try rw [eqI] at hb4
 iterate 5 refine x0 ?_
 iterate 2 refine v0 ?_
 iterate 7 refine x0 ?_
 iterate 2 refine v0 ?_
 iterate 7 refine x0 ?_
 iterate 2 refine v0 ?_
 apply aC
 repeat apply aA
 refine aL ?_
 repeat (first|refine aH ?_|refine aE ?_|refine aD ?_)
 refine aM ?_
 refine fp ?_
 simp only [dT.at,cL.ok.injEq,G.p.injEq,P.bool.injEq,true_and,and_true]
 first
 |(rw [decide_eq_false (fun e:a=b=>by subst e;omega)];done)
 |(rw [decide_eq_false (fun e:a=b=>dZ hx hy (by assumption) (by rw [e]))];done)
 |(rw [decide_eq_false (fun e:a=b=>by subst e;simp_all)];done)
 |exact (zG (by omega) (by assumption) (by assumption) (dG htk (by omega) (by omega)))
theorem aMI:aJ Tryz.prog 23:=aJ.mk Tryz.func23 (by kernel_rfl) rfl
theorem aGX (a b:Plt) (h3:a.st.length≤1048576) (h4:b.st.length≤1048576):bF Tryz.prog 23 [gC a,gC b] (.ok (.bool (decide (a=b)))):=by
 refine bL Tryz.func23 (rfl:Tryz.f23.body=some _) rfl ?_
 intro E A C hN hL
 replace hN:C.N=36:=hN
 simp only [Gh.num,List.map_cons,List.map_nil,Nat.reduceAdd]
 have hps:∀s:nB,eE s = .agg [.int .i64 s.x.1,.int .i64 s.x.2,.int .i64 s.y.1,.int .i64 s.y.2,.bool s.kn,.int .i64 s.e.1,.int .i64 s.e.2,.int .i64 s.n.1,.int .i64 s.n.2]:=fun _=>rfl
 have hg24:=aDC 3
 have hg84:=aOy 3
 unfold gC
 repeat apply aA
 apply aB
 refine n1 120 false (hc:=rN.h {}) ?_
 refine n1 130 false (hc:=rN.h {}) ?_
 refine v0 ?_
 apply aC
 refine cl [2,3] ?_
 repeat apply aA
 apply aB
 iterate 7 refine v0 ?_
 apply aC
 repeat apply aA
 refine cB (k1:=fun hb1=>?_) (k0:=fun hb1=>?_)
 ·replace hb1:=hB.h {} hb1
  try rw [eqI] at hb1
  repeat apply aA
  apply aB
  refine v0 ?_
  apply aC
  repeat apply aA
  refine aL ?_
  repeat (first|refine aH ?_|refine aE ?_|refine aD ?_)
  refine aM ?_
  refine fp ?_
  simp only [dT.at,cL.ok.injEq,G.p.injEq,P.bool.injEq,true_and,and_true]
  first
  |(rw [decide_eq_false (fun e:a=b=>by subst e;omega)];done)
  |(rw [decide_eq_false (fun e:a=b=>dZ hx hy (by assumption) (by rw [e]))];done)
  |exact (aGh (dG htk (by omega) (by omega)))
 replace hb1:=hB.h {} hb1
 try rw [eqI] at hb1
 repeat apply aA
 refine aQ ?_
 refine cl [2,3] ?_
 repeat apply aA
 apply aB
 refine v0 ?_
 apply aC
 refine cl [2,3,5] ?_
 repeat apply aA
 refine aP ?_
 repeat apply aA
 refine cJ (fun mz σ=>∃k:Nat,(k≤a.st.length)∧(a.st.length≤b.st.length∧b.st.length≤a.st.length)∧(a.st.take k=b.st.take k)∧mz=a.st.length - k∧σ=(sg [(2,.ref 120 0),(3,.ref 130 0),(5,.p (.int .i64 (k:Nat)))] [(120,.cells [.p (.int .i64 a.sc.1),.p (.int .i64 a.sc.2),.p (.list (a.st.map eE))] 0),(130,.cells [.p (.int .i64 b.sc.1),.p (.int .i64 b.sc.2),.p (.list (b.st.map eE))] 0)] A []:Sg E)) ?_ (fun mz σ hI=>?_)
 ·refine gA [2,3,5] ?_
  exact ⟨_,0,by omega,⟨by omega,by omega⟩,rfl,rfl,rfl⟩
 obtain ⟨k,hk,⟨hab1,hab2⟩,htk,hnn,rfl⟩:=hI
 repeat apply aA
 apply aB
 iterate 5 refine v0 ?_
 apply aC
 repeat apply aA
 refine cB (k1:=fun hb2=>?_) (k0:=fun hb2=>?_)
 ·replace hb2:=hB.h {} hb2
  try rw [eqI] at hb2
  repeat apply aA
  refine aQ ?_
  refine cl [2,3,5] ?_
  repeat apply aA
  refine aP ?_
  repeat apply aA
  obtain ⟨x,hx⟩:=fT (l:=a.st) (k:=k) (by omega)
  obtain ⟨y,hy⟩:=fT (l:=b.st) (k:=k) (by omega)
  refine rd ?_
  refine d0 0 ?_
  refine d0 1 ?_
  refine d0 2 ?_
  refine d1 3 (hc:=rN.h {}) ?_
  refine d0 4 ?_
  refine d0 5 ?_
  refine d0 6 ?_
  refine d0 7 ?_
  refine d1 8 (hc:=rN.h {}) ?_
  refine d0 9 ?_
  refine d1 10 (hc:=rN.h {}) ?_
  refine dz 11 [0,1,0,7,15,0,32,0,224,480,1023] ?_
  refine de 11 ?_
  repeat apply aA
  refine cB (k1:=fun hb3=>?_) (k0:=fun hb3=>?_)
  ·replace hb3:=hB.h {} hb3
   try rw [eqI] at hb3
   repeat apply aA
   apply aB
   refine v0 ?_
   apply aC
   repeat apply aA
   refine aL ?_
   repeat (first|refine aH ?_|refine aE ?_|refine aD ?_)
   refine aM ?_
   refine fp ?_
   simp only [dT.at,cL.ok.injEq,G.p.injEq,P.bool.injEq,true_and,and_true]
   first
   |(rw [decide_eq_false (fun e:a=b=>by subst e;omega)];done)
   |(rw [decide_eq_false (fun e:a=b=>dZ hx hy (by assumption) (by rw [e]))];done)
   |exact (aGh (dG htk (by omega) (by omega)))
  replace hb3:=hB.h {} hb3
  try rw [eqI] at hb3
  repeat apply aA
  refine aQ ?_
  refine cl [2,3,5] ?_
  repeat apply aA
  apply aB
  refine v0 ?_
  refine v1 (hc:=rN.h {}) ?_
  refine v0 ?_
  apply aC
  refine dN [2,3,5] (h:=?_) (hV:=?_) (n':=a.st.length - (k+1))
  ·omega
  exact ⟨k+1,by omega,⟨hab1,hab2⟩,kR hx hy htk (by assumption),rfl,rfl⟩
 replace hb2:=hB.h {} hb2
 try rw [eqI] at hb2
 repeat apply aA
 refine bY ?_
 repeat (first|refine bI ?_|refine aY ?_|refine bC ?_|refine bJ rfl ?_)
 refine cl [2,3] ?_
 repeat apply aA
 apply aB
 iterate 4 refine v0 ?_
 refine v1 (hc:=rN.h {}) ?_
 refine v0 ?_
 apply aC
 repeat apply aA
 refine aL ?_
 repeat (first|refine aH ?_|refine aE ?_|refine aD ?_)
 refine aM ?_
 refine fp ?_
 simp only [dT.at,cL.ok.injEq,G.p.injEq,P.bool.injEq,true_and,and_true]
 first
 |(rw [decide_eq_false (fun e:a=b=>by subst e;omega)];done)
 |(rw [decide_eq_false (fun e:a=b=>dZ hx hy (by assumption) (by rw [e]))];done)
 |exact (aGh (dG htk (by omega) (by omega)))
end
section
open Go.Gh
structure aB3 (c:Prop):Prop where
 h:c:=by (first|exact True.intro|omega|(simp only [inI];omega)|(simp [P.size];done)|((repeat' apply And.intro)<;>(first|trivial|omega|(simp only [List.length_map];omega)|(intro z hz;obtain ⟨y,_,rfl⟩:=List.mem_map.1 hz;rfl));done)|kernel_rfl|omega|(simp only [inI];omega)|(simp [P.size,bU,bG,bR,bB,cS,good,G.one,P.one,P.cells]<;>first|omega|assumption|simp_all))
theorem aMJ:aJ Tryz.prog 32:=aJ.mk Tryz.func32 (by kernel_rfl) rfl
theorem aGY (a b:Chn) (h1:a.kn.length≤1048576) (h2:b.kn.length≤1048576) (h3:a.rs.length≤1048576) (h4:b.rs.length≤1048576):bF Tryz.prog 32 [gD a,gD b] (.ok (.bool (decide (a=b)))):=by
 refine bL Tryz.func32 (rfl:Tryz.f32.body=some _) rfl ?_
 intro E A C hN hL
 replace hN:C.N=78:=hN
 simp only [Gh.num,List.map_cons,List.map_nil,Nat.reduceAdd]
 have hpsp:∀s:Int×Int,pSp s = .agg [.int .i64 s.1,.int .i64 s.2]:=fun _=>rfl
 have hprc:∀s:Int×Int×Int,pRc s = .agg [.int .i64 s.1,.int .i64 s.2.1,.int .i64 s.2.2]:=fun _=>rfl
 have hg126:=aL0 3
 have hg86:=aOw 3
 unfold gD
 repeat apply aA
 apply aB
 refine n1 120 false (hc:=aB3.h {}) ?_
 refine n1 130 false (hc:=aB3.h {}) ?_
 refine v0 ?_
 apply aC
 refine cl [2,3] ?_
 repeat apply aA
 apply aB
 iterate 8 refine v0 ?_
 refine b0 (k1:=fun hb1=>?_) (k0:=fun hb1=>?_)
 ·replace hb1:=hB.h {} hb1
  try rw [eqI] at hb1
  iterate 7 refine x0 ?_
  refine v0 ?_
  apply aC
  repeat apply aA
  refine cT ?_
  repeat apply aA
  apply aB
  refine v0 ?_
  apply aC
  repeat apply aA
  refine aL ?_
  repeat (first|refine aH ?_|refine aE ?_|refine aD ?_)
  refine aM ?_
  refine fp ?_
  simp only [dT.at,cL.ok.injEq,G.p.injEq,P.bool.injEq,true_and,and_true]
  first
  |(rw [decide_eq_false (fun e:a=b=>by subst e;omega)];done)
  |(rw [decide_eq_false (fun e:a=b=>dZ hx hy (by assumption) (by rw [e]))];done)
  |(rw [decide_eq_false (fun e:a=b=>by subst e;simp_all)];done)
  |exact (wC (by omega) (by omega) (by rw [←hkn,List.take_of_length_le hkl]) (dG htj (by omega) (by omega)))
 replace hb1:=hB.h {} hb1
 try rw [eqI] at hb1
 iterate 7 refine w0 ?_
 refine v0 ?_
 apply aC
 repeat apply aA
 refine cB (k1:=fun hb2=>?_) (k0:=fun hb2=>?_)
 ·replace hb2:=hB.h {} hb2
  try rw [eqI] at hb2
  repeat apply aA
  apply aB
  refine v0 ?_
  apply aC
  repeat apply aA
  refine aL ?_
  repeat (first|refine aH ?_|refine aE ?_|refine aD ?_)
  refine aM ?_
  refine fp ?_
  simp only [dT.at,cL.ok.injEq,G.p.injEq,P.bool.injEq,true_and,and_true]
  first
  |(rw [decide_eq_false (fun e:a=b=>by subst e;omega)];done)
  |(rw [decide_eq_false (fun e:a=b=>dZ hx hy (by assumption) (by rw [e]))];done)
  |(rw [decide_eq_false (fun e:a=b=>by subst e;simp_all)];done)
  |exact (wC (by omega) (by omega) (by rw [←hkn,List.take_of_length_le hkl]) (dG htj (by omega) (by omega)))
 replace hb2:=hB.h {} hb2
 try rw [eqI] at hb2
 repeat apply aA
 refine aQ ?_
 refine cl [2,3] ?_
 repeat apply aA
 apply aB
 refine v0 ?_
 apply aC
 refine cl [2,3,5] ?_
 repeat apply aA
 refine aP ?_
 repeat apply aA
 refine cJ (fun mz σ=>∃k:Nat,(k≤a.kn.length)∧(a.kn.length≤b.kn.length∧b.kn.length≤a.kn.length)∧(a.kn.take k=b.kn.take k)∧(a.rs.length≤b.rs.length∧b.rs.length≤a.rs.length)∧mz=a.kn.length - k∧σ=(sg [(2,.ref 120 0),(3,.ref 130 0),(5,.p (.int .i64 (k:Nat)))] [(120,.cells [.p (.int .i64 a.pl),.p (.int .i64 a.ps),.p (.list (a.kn.map pSp)),.p (.list (a.rs.map pRc)),.p (.int .i64 a.ms)] 0),(130,.cells [.p (.int .i64 b.pl),.p (.int .i64 b.ps),.p (.list (b.kn.map pSp)),.p (.list (b.rs.map pRc)),.p (.int .i64 b.ms)] 0)] A []:Sg E)) ?_ (fun mz σ hI=>?_)
 ·refine gA [2,3,5] ?_
  exact ⟨_,0,by omega,⟨by omega,by omega⟩,rfl,⟨by omega,by omega⟩,rfl,rfl⟩
 obtain ⟨k,hk,⟨hab1,hab2⟩,htk,⟨hcd1,hcd2⟩,hnn,rfl⟩:=hI
 repeat apply aA
 apply aB
 iterate 5 refine v0 ?_
 apply aC
 repeat apply aA
 refine cB (k1:=fun hb3=>?_) (k0:=fun hb3=>?_)
 ·replace hb3:=hB.h {} hb3
  try rw [eqI] at hb3
  repeat apply aA
  refine aQ ?_
  refine cl [2,3,5] ?_
  repeat apply aA
  refine aP ?_
  repeat apply aA
  obtain ⟨x,hx⟩:=fT (l:=a.kn) (k:=k) (by omega)
  obtain ⟨y,hy⟩:=fT (l:=b.kn) (k:=k) (by omega)
  refine rd ?_
  refine d0 0 ?_
  refine d0 1 ?_
  refine d0 2 ?_
  refine d1 3 (hc:=aB3.h {}) ?_
  refine d0 4 ?_
  refine d0 5 ?_
  refine d0 6 ?_
  refine d0 7 ?_
  refine d1 8 (hc:=aB3.h {}) ?_
  refine d0 9 ?_
  refine d1 10 (hc:=aB3.h {}) ?_
  refine dz 11 [0,1,0,7,15,0,32,0,224,480,1023] ?_
  refine de 11 ?_
  repeat apply aA
  refine cB (k1:=fun hb4=>?_) (k0:=fun hb4=>?_)
  ·replace hb4:=hB.h {} hb4
   try rw [eqI] at hb4
   repeat apply aA
   apply aB
   refine v0 ?_
   apply aC
   repeat apply aA
   refine aL ?_
   repeat (first|refine aH ?_|refine aE ?_|refine aD ?_)
   refine aM ?_
   refine fp ?_
   simp only [dT.at,cL.ok.injEq,G.p.injEq,P.bool.injEq,true_and,and_true]
   first
   |(rw [decide_eq_false (fun e:a=b=>by subst e;omega)];done)
   |(rw [decide_eq_false (fun e:a=b=>dZ hx hy (by assumption) (by rw [e]))];done)
   |(rw [decide_eq_false (fun e:a=b=>by subst e;simp_all)];done)
   |exact (wC (by omega) (by omega) (by rw [←hkn,List.take_of_length_le hkl]) (dG htj (by omega) (by omega)))
  replace hb4:=hB.h {} hb4
  try rw [eqI] at hb4
  repeat apply aA
  refine aQ ?_
  refine cl [2,3,5] ?_
  repeat apply aA
  apply aB
  refine v0 ?_
  refine v1 (hc:=aB3.h {}) ?_
  refine v0 ?_
  apply aC
  refine dN [2,3,5] (h:=?_) (hV:=?_) (n':=a.kn.length - (k+1))
  ·omega
  exact ⟨k+1,by omega,⟨hab1,hab2⟩,kR hx hy htk (by assumption),⟨hcd1,hcd2⟩,rfl,rfl⟩
 replace hb3:=hB.h {} hb3
 try rw [eqI] at hb3
 repeat apply aA
 refine bY ?_
 repeat (first|refine bI ?_|refine aY ?_|refine bC ?_|refine bJ rfl ?_)
 refine cl [2,3] ?_
 repeat apply aA
 apply aB
 refine v0 ?_
 apply aC
 refine cl [2,3,6] ?_
 repeat apply aA
 refine aP ?_
 repeat apply aA
 refine cJ (fun mz σ=>∃j:Nat,(j≤a.rs.length)∧(a.rs.length≤b.rs.length∧b.rs.length≤a.rs.length)∧(a.rs.take j=b.rs.take j)∧(a.kn.take b.kn.length=b.kn)∧mz=a.rs.length - j∧σ=(sg [(2,.ref 120 0),(3,.ref 130 0),(6,.p (.int .i64 (j:Nat)))] [(120,.cells [.p (.int .i64 a.pl),.p (.int .i64 a.ps),.p (.list (a.kn.map pSp)),.p (.list (a.rs.map pRc)),.p (.int .i64 a.ms)] 0),(130,.cells [.p (.int .i64 b.pl),.p (.int .i64 b.ps),.p (.list (b.kn.map pSp)),.p (.list (b.rs.map pRc)),.p (.int .i64 b.ms)] 0)] A []:Sg E)) ?_ (fun mz σ hI=>?_)
 ·refine gA [2,3,6] ?_
  exact ⟨_,0,by omega,⟨by omega,by omega⟩,rfl,by rw [dG htk (by omega) (by omega),List.take_length],rfl,rfl⟩
 obtain ⟨j,hj,⟨hcd1,hcd2⟩,htj,hkn,hnj,rfl⟩:=hI
 have hkl:a.kn.length≤b.kn.length:=by omega
 repeat apply aA
 apply aB
 iterate 5 refine v0 ?_
 apply aC
 repeat apply aA
 refine cB (k1:=fun hb5=>?_) (k0:=fun hb5=>?_)
 ·replace hb5:=hB.h {} hb5
  try rw [eqI] at hb5
  repeat apply aA
  refine aQ ?_
  refine cl [2,3,6] ?_
  repeat apply aA
  refine aP ?_
  repeat apply aA
  obtain ⟨x,hx⟩:=fT (l:=a.rs) (k:=j) (by omega)
  obtain ⟨y,hy⟩:=fT (l:=b.rs) (k:=j) (by omega)
  refine rd ?_
  refine d0 0 ?_
  refine d0 1 ?_
  refine d0 2 ?_
  refine d1 3 (hc:=aB3.h {}) ?_
  refine d0 4 ?_
  refine d0 5 ?_
  refine d0 6 ?_
  refine d0 7 ?_
  refine d1 8 (hc:=aB3.h {}) ?_
  refine d0 9 ?_
  refine d1 10 (hc:=aB3.h {}) ?_
  refine dz 11 [0,1,0,7,15,0,32,0,224,480,1023] ?_
  refine de 11 ?_
  repeat apply aA
  refine cB (k1:=fun hb6=>?_) (k0:=fun hb6=>?_)
  ·replace hb6:=hB.h {} hb6
   try rw [eqI] at hb6
   repeat apply aA
   apply aB
   refine v0 ?_
   apply aC
   repeat apply aA
   refine aL ?_
   repeat (first|refine aH ?_|refine aE ?_|refine aD ?_)
   refine aM ?_
   refine fp ?_
   simp only [dT.at,cL.ok.injEq,G.p.injEq,P.bool.injEq,true_and,and_true]
   first
   |(rw [decide_eq_false (fun e:a=b=>by subst e;omega)];done)
   |(rw [decide_eq_false (fun e:a=b=>dZ hx hy (by assumption) (by rw [e]))];done)
   |(rw [decide_eq_false (fun e:a=b=>by subst e;simp_all)];done)
   |exact (wC (by omega) (by omega) (by rw [←hkn,List.take_of_length_le hkl]) (dG htj (by omega) (by omega)))
  replace hb6:=hB.h {} hb6
  try rw [eqI] at hb6
  repeat apply aA
  refine aQ ?_
  refine cl [2,3,6] ?_
  repeat apply aA
  apply aB
  refine v0 ?_
  refine v1 (hc:=aB3.h {}) ?_
  refine v0 ?_
  apply aC
  refine dN [2,3,6] (h:=?_) (hV:=?_) (n':=a.rs.length - (j+1))
  ·omega
  exact ⟨j+1,by omega,⟨hcd1,hcd2⟩,kR hx hy htj (by assumption),hkn,rfl,rfl⟩
 replace hb5:=hB.h {} hb5
 try rw [eqI] at hb5
 repeat apply aA
 refine bY ?_
 repeat (first|refine bI ?_|refine aY ?_|refine bC ?_|refine bJ rfl ?_)
 refine cl [2,3] ?_
 repeat apply aA
 apply aB
 iterate 6 refine v0 ?_
 refine b0 (k1:=fun hb7=>?_) (k0:=fun hb7=>?_)
 ·replace hb7:=hB.h {} hb7
  try rw [eqI] at hb7
  iterate 5 refine w0 ?_
  iterate 2 refine v0 ?_
  refine b0 (k1:=fun hb8=>?_) (k0:=fun hb8=>?_)
  ·replace hb8:=hB.h {} hb8
   try rw [eqI] at hb8
   iterate 5 refine w0 ?_
   iterate 2 refine v0 ?_
   apply aC
   repeat apply aA
   refine aL ?_
   repeat (first|refine aH ?_|refine aE ?_|refine aD ?_)
   refine aM ?_
   refine fp ?_
   simp only [dT.at,cL.ok.injEq,G.p.injEq,P.bool.injEq,true_and,and_true]
   first
   |(rw [decide_eq_false (fun e:a=b=>by subst e;omega)];done)
   |(rw [decide_eq_false (fun e:a=b=>dZ hx hy (by assumption) (by rw [e]))];done)
   |(rw [decide_eq_false (fun e:a=b=>by subst e;simp_all)];done)
   |exact (wC (by omega) (by omega) (by rw [←hkn,List.take_of_length_le hkl]) (dG htj (by omega) (by omega)))
  replace hb8:=hB.h {} hb8
  try rw [eqI] at hb8
  iterate 5 refine x0 ?_
  iterate 2 refine v0 ?_
  apply aC
  repeat apply aA
  refine aL ?_
  repeat (first|refine aH ?_|refine aE ?_|refine aD ?_)
  refine aM ?_
  refine fp ?_
  simp only [dT.at,cL.ok.injEq,G.p.injEq,P.bool.injEq,true_and,and_true]
  first
  |(rw [decide_eq_false (fun e:a=b=>by subst e;omega)];done)
  |(rw [decide_eq_false (fun e:a=b=>dZ hx hy (by assumption) (by rw [e]))];done)
  |(rw [decide_eq_false (fun e:a=b=>by subst e;simp_all)];done)
  |exact (wC (by omega) (by omega) (by rw [←hkn,List.take_of_length_le hkl]) (dG htj (by omega) (by omega)))
 replace hb7:=hB.h {} hb7
 try rw [eqI] at hb7
 iterate 5 refine x0 ?_
 iterate 2 refine v0 ?_
 iterate 5 refine x0 ?_
 iterate 2 refine v0 ?_
 apply aC
 repeat apply aA
 refine aL ?_
 repeat (first|refine aH ?_|refine aE ?_|refine aD ?_)
 refine aM ?_
 refine fp ?_
 simp only [dT.at,cL.ok.injEq,G.p.injEq,P.bool.injEq,true_and,and_true]
 first
 |(rw [decide_eq_false (fun e:a=b=>by subst e;omega)];done)
 |(rw [decide_eq_false (fun e:a=b=>dZ hx hy (by assumption) (by rw [e]))];done)
 |(rw [decide_eq_false (fun e:a=b=>by subst e;simp_all)];done)
 |exact (wC (by omega) (by omega) (by rw [←hkn,List.take_of_length_le hkl]) (dG htj (by omega) (by omega)))
end
section
open Go.Gh
structure iI (c:Prop):Prop where
 h:c:=by (first|exact True.intro|omega|(simp only [inI];omega)|(simp [P.size];done)|((repeat' apply And.intro)<;>(first|trivial|omega|(simp only [List.length_map];omega)|(intro z hz;obtain ⟨y,_,rfl⟩:=List.mem_map.1 hz;rfl));done)|kernel_rfl|omega|(simp only [inI];omega)|(simp [P.size,bU,bG,bR,bB,cS,good,G.one,P.one,P.cells]<;>first|omega|assumption|simp_all))
theorem aOz {x y:Ngt} (h1:x.day=y.day) (h2:x.sp=y.sp):x=y:=by cases x;cases y;simp_all
theorem aMK:aJ Tryz.prog 34:=aJ.mk Tryz.func34 (by kernel_rfl) rfl
theorem aGZ (a b:Sch) (h3:a.ni.length≤1048576) (h4:b.ni.length≤1048576) (h5:∀n∈a.ni,n.sp.length≤1048576) (h6:∀n∈b.ni,n.sp.length≤1048576):bF Tryz.prog 34 [iA a,iA b] (.ok (.bool (decide (a=b)))):=by
 refine bL Tryz.func34 (rfl:Tryz.f34.body=some _) rfl ?_
 intro E A C hN hL
 replace hN:C.N=77:=hN
 simp only [Gh.num,List.map_cons,List.map_nil,Nat.reduceAdd]
 have hpss:∀s:Spt,pV s = .agg [.int .i64 s.e.1,.int .i64 s.e.2,.int .i64 s.n.1,.int .i64 s.n.2]:=fun _=>rfl
 have hpsn:∀s:Ngt,iY s = .agg [.int .i64 s.day,.list (s.sp.map pV)]:=fun _=>rfl
 have hg24:=aDC 3
 have hg79:=aOx 3
 unfold iA
 repeat apply aA
 apply aB
 refine n1 120 false (hc:=iI.h {}) ?_
 refine n1 130 false (hc:=iI.h {}) ?_
 refine v0 ?_
 apply aC
 refine cl [2,3] ?_
 repeat apply aA
 apply aB
 iterate 7 refine v0 ?_
 apply aC
 repeat apply aA
 refine cB (k1:=fun hb1=>?_) (k0:=fun hb1=>?_)
 ·replace hb1:=hB.h {} hb1
  try rw [eqI] at hb1
  repeat apply aA
  apply aB
  refine v0 ?_
  apply aC
  repeat apply aA
  refine aL ?_
  repeat (first|refine aH ?_|refine aE ?_|refine aD ?_)
  refine aM ?_
  refine fp ?_
  simp only [dT.at,cL.ok.injEq,G.p.injEq,P.bool.injEq,true_and,and_true]
  first
  |(rw [decide_eq_false (fun e:a=b=>by subst e;omega)];done)
  |(rw [decide_eq_false (fun e:a=b=>dZ hx hy (fun e2:x=y=>dZ hz hw (by assumption) (by rw [e2])) (by rw [e]))];done)
  |(rw [decide_eq_false (fun e:a=b=>dZ hx hy (fun e2:x=y=>by subst e2;omega) (by rw [e]))];done)
  |(rw [decide_eq_false (fun e:a=b=>by subst e;simp_all)];done)
  |exact (zH (by assumption) (dG htk (by omega) (by omega)))
 replace hb1:=hB.h {} hb1
 try rw [eqI] at hb1
 repeat apply aA
 refine aQ ?_
 refine cl [2,3] ?_
 repeat apply aA
 apply aB
 refine v0 ?_
 apply aC
 refine cl [2,3,5] ?_
 repeat apply aA
 refine aP ?_
 repeat apply aA
 refine cJ (fun mz σ=>∃k:Nat,(k≤a.ni.length)∧(a.ni.length≤b.ni.length∧b.ni.length≤a.ni.length)∧(a.ni.take k=b.ni.take k)∧mz=a.ni.length - k∧σ=(sg [(2,.ref 120 0),(3,.ref 130 0),(5,.p (.int .i64 (k:Nat)))] [(120,.cells [.p (.int .i64 a.v.1),.p (.int .i64 a.v.2),.p (.list (a.ni.map iY)),.p (.int .i64 a.st)] 0),(130,.cells [.p (.int .i64 b.v.1),.p (.int .i64 b.v.2),.p (.list (b.ni.map iY)),.p (.int .i64 b.st)] 0)] A []:Sg E)) ?_ (fun mz σ hI=>?_)
 ·refine gA [2,3,5] ?_
  exact ⟨_,0,by omega,⟨by omega,by omega⟩,rfl,rfl,rfl⟩
 obtain ⟨k,hk,⟨hab1,hab2⟩,htk,hnn,rfl⟩:=hI
 repeat apply aA
 apply aB
 iterate 5 refine v0 ?_
 apply aC
 repeat apply aA
 refine cB (k1:=fun hb2=>?_) (k0:=fun hb2=>?_)
 ·replace hb2:=hB.h {} hb2
  try rw [eqI] at hb2
  repeat apply aA
  refine aQ ?_
  refine cl [2,3,5] ?_
  repeat apply aA
  refine aP ?_
  repeat apply aA
  obtain ⟨x,hx⟩:=fT (l:=a.ni) (k:=k) (by omega)
  obtain ⟨y,hy⟩:=fT (l:=b.ni) (k:=k) (by omega)
  have hxl:=h5 x (List.mem_of_getElem? hx)
  have hyl:=h6 y (List.mem_of_getElem? hy)
  refine rd ?_
  refine d0 0 ?_
  refine d0 1 ?_
  refine d0 2 ?_
  refine d1 3 (hc:=iI.h {}) ?_
  refine d0 4 ?_
  refine d0 5 ?_
  refine d0 6 ?_
  refine d0 7 ?_
  refine d1 8 (hc:=iI.h {}) ?_
  refine d0 9 ?_
  refine dn1 10 160 false (hc:=iI.h {}) ?_
  refine dn1 11 170 false (hc:=iI.h {}) ?_
  refine ds1 12 (hc:=iI.h {}) ?_
  refine ds1 13 (hc:=iI.h {}) ?_
  refine dz 14 [0,1,0,7,15,0,32,0,224,480,0,0,3103,8191] ?_
  refine de 14 ?_
  refine cl [2,3,5,6,7] ?_
  repeat apply aA
  apply aB
  iterate 6 refine v0 ?_
  refine b0 (k1:=fun hb3=>?_) (k0:=fun hb3=>?_)
  ·replace hb3:=hB.h {} hb3
   try rw [eqI] at hb3
   iterate 7 refine x0 ?_
   refine v0 ?_
   apply aC
   repeat apply aA
   refine cT ?_
   repeat apply aA
   apply aB
   refine v0 ?_
   apply aC
   repeat apply aA
   refine aL ?_
   repeat (first|refine aH ?_|refine aE ?_|refine aD ?_)
   refine aM ?_
   refine fp ?_
   simp only [dT.at,cL.ok.injEq,G.p.injEq,P.bool.injEq,true_and,and_true]
   first
   |(rw [decide_eq_false (fun e:a=b=>by subst e;omega)];done)
   |(rw [decide_eq_false (fun e:a=b=>dZ hx hy (fun e2:x=y=>dZ hz hw (by assumption) (by rw [e2])) (by rw [e]))];done)
   |(rw [decide_eq_false (fun e:a=b=>dZ hx hy (fun e2:x=y=>by subst e2;omega) (by rw [e]))];done)
   |(rw [decide_eq_false (fun e:a=b=>by subst e;simp_all)];done)
   |exact (zH (by assumption) (dG htk (by omega) (by omega)))
  replace hb3:=hB.h {} hb3
  try rw [eqI] at hb3
  iterate 7 refine w0 ?_
  refine v0 ?_
  apply aC
  repeat apply aA
  refine cB (k1:=fun hb4=>?_) (k0:=fun hb4=>?_)
  ·replace hb4:=hB.h {} hb4
   try rw [eqI] at hb4
   repeat apply aA
   apply aB
   refine v0 ?_
   apply aC
   repeat apply aA
   refine aL ?_
   repeat (first|refine aH ?_|refine aE ?_|refine aD ?_)
   refine aM ?_
   refine fp ?_
   simp only [dT.at,cL.ok.injEq,G.p.injEq,P.bool.injEq,true_and,and_true]
   first
   |(rw [decide_eq_false (fun e:a=b=>by subst e;omega)];done)
   |(rw [decide_eq_false (fun e:a=b=>dZ hx hy (fun e2:x=y=>dZ hz hw (by assumption) (by rw [e2])) (by rw [e]))];done)
   |(rw [decide_eq_false (fun e:a=b=>dZ hx hy (fun e2:x=y=>by subst e2;omega) (by rw [e]))];done)
   |(rw [decide_eq_false (fun e:a=b=>by subst e;simp_all)];done)
   |exact (zH (by assumption) (dG htk (by omega) (by omega)))
  replace hb4:=hB.h {} hb4
  try rw [eqI] at hb4
  repeat apply aA
  refine aQ ?_
  refine cl [2,3,5,6,7] ?_
  repeat apply aA
  apply aB
  refine v0 ?_
  apply aC
  refine cl [2,3,5,6,7,8] ?_
  repeat apply aA
  refine aP ?_
  repeat apply aA
  refine cJ (fun mz σ=>∃j:Nat,(j≤x.sp.length)∧(x.sp.length≤y.sp.length∧y.sp.length≤x.sp.length)∧(x.sp.take j=y.sp.take j)∧(x.day≤y.day∧y.day≤x.day)∧mz=x.sp.length - j∧σ=(sg [(2,.ref 120 0),(3,.ref 130 0),(5,.p (.int .i64 (k:Nat))),(6,.ref 160 0),(7,.ref 170 0),(8,.p (.int .i64 (j:Nat)))] [(120,.cells [.p (.int .i64 a.v.1),.p (.int .i64 a.v.2),.p (.list (a.ni.map iY)),.p (.int .i64 a.st)] 0),(130,.cells [.p (.int .i64 b.v.1),.p (.int .i64 b.v.2),.p (.list (b.ni.map iY)),.p (.int .i64 b.st)] 0),(160,.cells [.p (.int .i64 x.day),.p (.list (x.sp.map pV))] 0),(170,.cells [.p (.int .i64 y.day),.p (.list (y.sp.map pV))] 0)] A []:Sg E)) ?_ (fun mz σ hI=>?_)
  ·refine gA [2,3,5,6,7,8] ?_
   exact ⟨_,0,by omega,⟨by omega,by omega⟩,rfl,⟨by omega,by omega⟩,rfl,rfl⟩
  obtain ⟨j,hj,⟨hcd1,hcd2⟩,htj,⟨hd1,hd2⟩,hnj,rfl⟩:=hI
  repeat apply aA
  apply aB
  iterate 5 refine v0 ?_
  apply aC
  repeat apply aA
  refine cB (k1:=fun hb5=>?_) (k0:=fun hb5=>?_)
  ·replace hb5:=hB.h {} hb5
   try rw [eqI] at hb5
   repeat apply aA
   refine aQ ?_
   refine cl [2,3,5,6,7,8] ?_
   repeat apply aA
   refine aP ?_
   repeat apply aA
   obtain ⟨z,hz⟩:=fT (l:=x.sp) (k:=j) (by omega)
   obtain ⟨w,hw⟩:=fT (l:=y.sp) (k:=j) (by omega)
   refine rd ?_
   refine d0 0 ?_
   refine d0 1 ?_
   refine d0 2 ?_
   refine d1 3 (hc:=iI.h {}) ?_
   refine d0 4 ?_
   refine d0 5 ?_
   refine d0 6 ?_
   refine d0 7 ?_
   refine d1 8 (hc:=iI.h {}) ?_
   refine d0 9 ?_
   refine d1 10 (hc:=iI.h {}) ?_
   refine dz 11 [0,1,0,7,15,0,32,0,224,480,1023] ?_
   refine de 11 ?_
   repeat apply aA
   refine cB (k1:=fun hb6=>?_) (k0:=fun hb6=>?_)
   ·replace hb6:=hB.h {} hb6
    try rw [eqI] at hb6
    repeat apply aA
    apply aB
    refine v0 ?_
    apply aC
    repeat apply aA
    refine aL ?_
    repeat (first|refine aH ?_|refine aE ?_|refine aD ?_)
    refine aM ?_
    refine fp ?_
    simp only [dT.at,cL.ok.injEq,G.p.injEq,P.bool.injEq,true_and,and_true]
    first
    |(rw [decide_eq_false (fun e:a=b=>by subst e;omega)];done)
    |(rw [decide_eq_false (fun e:a=b=>dZ hx hy (fun e2:x=y=>dZ hz hw (by assumption) (by rw [e2])) (by rw [e]))];done)
    |(rw [decide_eq_false (fun e:a=b=>dZ hx hy (fun e2:x=y=>by subst e2;omega) (by rw [e]))];done)
    |(rw [decide_eq_false (fun e:a=b=>by subst e;simp_all)];done)
    |exact (zH (by assumption) (dG htk (by omega) (by omega)))
   replace hb6:=hB.h {} hb6
   try rw [eqI] at hb6
   repeat apply aA
   refine aQ ?_
   refine cl [2,3,5,6,7,8] ?_
   repeat apply aA
   apply aB
   refine v0 ?_
   refine v1 (hc:=iI.h {}) ?_
   refine v0 ?_
   apply aC
   refine dN [2,3,5,6,7,8] (h:=?_) (hV:=?_) (n':=x.sp.length - (j+1))
   ·omega
   exact ⟨j+1,by omega,⟨hcd1,hcd2⟩,kR hz hw htj (by assumption),⟨hd1,hd2⟩,rfl,rfl⟩
  replace hb5:=hB.h {} hb5
  try rw [eqI] at hb5
  repeat apply aA
  refine bY ?_
  repeat (first|refine bI ?_|refine aY ?_|refine bC ?_|refine bJ rfl ?_)
  refine cl [2,3,5] ?_
  repeat apply aA
  apply aB
  refine v0 ?_
  refine v1 (hc:=iI.h {}) ?_
  refine v0 ?_
  apply aC
  refine dN [2,3,5] (h:=?_) (hV:=?_) (n':=a.ni.length - (k+1))
  ·omega
  exact ⟨k+1,by omega,⟨hab1,hab2⟩,kR hx hy htk (aOz (by omega) (dG htj (by omega) (by omega))),rfl,rfl⟩
 replace hb2:=hB.h {} hb2
 try rw [eqI] at hb2
 repeat apply aA
 refine bY ?_
 repeat (first|refine bI ?_|refine aY ?_|refine bC ?_|refine bJ rfl ?_)
 refine cl [2,3] ?_
 repeat apply aA
 apply aB
 iterate 4 refine v0 ?_
 refine v1 (hc:=iI.h {}) ?_
 refine v0 ?_
 refine b0 (k1:=fun hb7=>?_) (k0:=fun hb7=>?_)
 ·replace hb7:=hB.h {} hb7
  try rw [eqI] at hb7
  iterate 5 refine w0 ?_
  iterate 2 refine v0 ?_
  apply aC
  repeat apply aA
  refine aL ?_
  repeat (first|refine aH ?_|refine aE ?_|refine aD ?_)
  refine aM ?_
  refine fp ?_
  simp only [dT.at,cL.ok.injEq,G.p.injEq,P.bool.injEq,true_and,and_true]
  first
  |(rw [decide_eq_false (fun e:a=b=>by subst e;omega)];done)
  |(rw [decide_eq_false (fun e:a=b=>dZ hx hy (fun e2:x=y=>dZ hz hw (by assumption) (by rw [e2])) (by rw [e]))];done)
  |(rw [decide_eq_false (fun e:a=b=>dZ hx hy (fun e2:x=y=>by subst e2;omega) (by rw [e]))];done)
  |(rw [decide_eq_false (fun e:a=b=>by subst e;simp_all)];done)
  |exact (zH (by assumption) (dG htk (by omega) (by omega)))
 replace hb7:=hB.h {} hb7
 try rw [eqI] at hb7
 iterate 5 refine x0 ?_
 iterate 2 refine v0 ?_
 apply aC
 repeat apply aA
 refine aL ?_
 repeat (first|refine aH ?_|refine aE ?_|refine aD ?_)
 refine aM ?_
 refine fp ?_
 simp only [dT.at,cL.ok.injEq,G.p.injEq,P.bool.injEq,true_and,and_true]
 first
 |(rw [decide_eq_false (fun e:a=b=>by subst e;omega)];done)
 |(rw [decide_eq_false (fun e:a=b=>dZ hx hy (fun e2:x=y=>dZ hz hw (by assumption) (by rw [e2])) (by rw [e]))];done)
 |(rw [decide_eq_false (fun e:a=b=>dZ hx hy (fun e2:x=y=>by subst e2;omega) (by rw [e]))];done)
 |(rw [decide_eq_false (fun e:a=b=>by subst e;simp_all)];done)
 |exact (zH (by assumption) (dG htk (by omega) (by omega)))
theorem aML:aJ Tryz.prog 33:=aJ.mk Tryz.func33 (by kernel_rfl) rfl
theorem aG0 (a b:List UInt8):bF Tryz.prog 33 [.list (u8s a),.list (u8s b)] (.ok (.bool (decide (a=b)))):=by
 refine bL Tryz.func33 (rfl:Tryz.f33.body=some _) rfl ?_
 intro E A C hN hL
 replace hN:C.N=10:=hN
 simp only [Gh.num,List.map_cons,List.map_nil,Nat.reduceAdd]
 repeat apply aA
 apply aB
 refine v0 ?_
 apply aC
 refine cl [0,1] ?_
 repeat apply aA
 apply aB
 refine v0 ?_
 refine bs0 a (hx:=by (simp only [gev,aT,Nat.reduceEqDiff,reduceIte]<;>rfl)) ?_
 refine v0 ?_
 refine bs0 b (hx:=by (simp only [gev,aT,Nat.reduceEqDiff,reduceIte]<;>rfl)) ?_
 iterate 2 refine v0 ?_
 apply aC
 repeat apply aA
 refine aL ?_
 repeat (first|refine aH ?_|refine aE ?_|refine aD ?_)
 refine aM ?_
 refine fp ?_
 rfl
theorem jH:aJ Tryz.prog 41:=aJ.mk Tryz.func41 (by kernel_rfl) rfl
theorem qS (a b:Int):bF Tryz.prog 41 [.int .i64 a,.int .i64 b] (.ok (.agg [.int .i64 a,.int .i64 b])):=by
 refine bL Tryz.func41 (rfl:Tryz.f41.body=some _) rfl ?_
 intro E A C hN hL
 replace hN:C.N=8:=hN
 simp only [Gh.num,List.map_cons,List.map_nil,Nat.reduceAdd]
 repeat apply aA
 apply aB
 refine n1 140 false (hc:=iI.h {}) ?_
 apply aC
 refine cl [0,1,4] ?_
 repeat apply aA
 apply aB
 iterate 3 refine v0 ?_
 refine s1 (hc:=iI.h {}) ?_
 apply aC
 repeat apply aA
 refine aL ?_
 repeat (first|refine aH ?_|refine aE ?_|refine aD ?_)
 refine aM ?_
 refine fp ?_
 rfl
def exM:Msr:=⟨2,(2900,3100),(-3,3),[(-2,2),(0,5),(1,1),(-4,0)],[⟨0,500,false⟩,⟨0,2504,true⟩,⟨1,1200,false⟩,⟨1,1788,true⟩]⟩
def exP:Plt:=⟨(590,610),[⟨(1000,1002),(2000,2001),true,(5600,5602),(7200,7203)⟩,⟨(3000,3001),(500,502),true,(6800,6801),(6300,6302)⟩,⟨(2000,2001),(1500,1500),false,(0,0),(0,0)⟩]⟩
def exC:Chn:=⟨2,5,[(0,1),(1,2),(2,3),(0,4),(4,3)],[(0,0,1),(0,2,3),(1,0,4),(0,3,0)],1⟩
def exS:Sch:=⟨(-20,20),[⟨10,[⟨(100,102),(50,50)⟩]⟩],1⟩
theorem aMM:aJ Tryz.prog 45:=aJ.mk Tryz.func45 (by kernel_rfl) rfl
theorem aMN  : bF Tryz.prog 45 [] (.ok (gE exM)):=by
 refine bL Tryz.func45 (rfl:Tryz.f45.body=some _) rfl ?_
 intro E A C hN hL
 replace hN:C.N=17:=hN
 simp only [Gh.num,List.map_cons,List.map_nil,Nat.reduceAdd]
 repeat apply aA
 apply aB
 refine n1 100 false (hc:=iI.h {}) ?_
 apply aC
 refine cl [0] ?_
 repeat apply aA
 apply aB
 iterate 4 refine pc0 (spec:=qS _ _) (hent:=jH) ?_
 refine n1 160 false (hc:=iI.h {}) ?_
 refine pc0 (spec:=qS _ _) (hent:=jH) ?_
 refine v0 ?_
 refine n1 110 false (hc:=iI.h {}) ?_
 refine s1 (hc:=iI.h {}) ?_
 apply aC
 refine cl [0,1] ?_
 repeat apply aA
 refine rd ?_
 refine d0 0 ?_
 refine oY 1 (spec:=qS _ _) (hent:=jH) ?_
 refine d0 2 ?_
 refine d0 3 ?_
 refine d0 4 ?_
 refine d0 5 ?_
 refine dn1 6 250 false (hc:=iI.h {}) ?_
 refine d0 7 ?_
 refine ds1 8 (hc:=iI.h {}) ?_
 refine dz 9 [0,0,0,0,0,0,60,127,255] ?_
 refine de 9 ?_
 repeat apply aA
 refine aL ?_
 repeat (first|refine aH ?_|refine aE ?_|refine aD ?_)
 refine aM ?_
 refine fp ?_
 rfl
theorem aMO:aJ Tryz.prog 46:=aJ.mk Tryz.func46 (by kernel_rfl) rfl
theorem aMP  : bF Tryz.prog 46 [] (.ok (gC exP)):=by
 refine bL Tryz.func46 (rfl:Tryz.f46.body=some _) rfl ?_
 intro E A C hN hL
 replace hN:C.N=17:=hN
 simp only [Gh.num,List.map_cons,List.map_nil,Nat.reduceAdd]
 repeat apply aA
 apply aB
 refine n1 100 false (hc:=iI.h {}) ?_
 apply aC
 refine cl [0] ?_
 repeat apply aA
 apply aB
 iterate 5 refine pc0 (spec:=qS _ _) (hent:=jH) ?_
 refine v0 ?_
 iterate 4 refine pc0 (spec:=qS _ _) (hent:=jH) ?_
 refine v0 ?_
 iterate 2 refine pc0 (spec:=qS _ _) (hent:=jH) ?_
 refine v0 ?_
 refine n1 250 false (hc:=iI.h {}) ?_
 refine v0 ?_
 refine s1 (hc:=iI.h {}) ?_
 apply aC
 repeat apply aA
 refine aL ?_
 repeat (first|refine aH ?_|refine aE ?_|refine aD ?_)
 refine aM ?_
 refine fp ?_
 rfl
theorem aMQ:aJ Tryz.prog 47:=aJ.mk Tryz.func47 (by kernel_rfl) rfl
theorem aMR  : bF Tryz.prog 47 [] (.ok (gD exC)):=by
 refine bL Tryz.func47 (rfl:Tryz.f47.body=some _) rfl ?_
 intro E A C hN hL
 replace hN:C.N=13:=hN
 simp only [Gh.num,List.map_cons,List.map_nil,Nat.reduceAdd]
 repeat apply aA
 apply aB
 refine n1 100 false (hc:=iI.h {}) ?_
 apply aC
 refine cl [0] ?_
 repeat apply aA
 apply aB
 iterate 5 refine v0 ?_
 refine n1 160 false (hc:=iI.h {}) ?_
 iterate 4 refine v0 ?_
 refine n1 210 false (hc:=iI.h {}) ?_
 refine v0 ?_
 refine s1 (hc:=iI.h {}) ?_
 apply aC
 repeat apply aA
 refine aL ?_
 repeat (first|refine aH ?_|refine aE ?_|refine aD ?_)
 refine aM ?_
 refine fp ?_
 rfl
theorem aMS:aJ Tryz.prog 48:=aJ.mk Tryz.func48 (by kernel_rfl) rfl
theorem aMT  : bF Tryz.prog 48 [] (.ok (iA exS)):=by
 refine bL Tryz.func48 (rfl:Tryz.f48.body=some _) rfl ?_
 intro E A C hN hL
 replace hN:C.N=9:=hN
 simp only [Gh.num,List.map_cons,List.map_nil,Nat.reduceAdd]
 repeat apply aA
 apply aB
 refine n1 100 false (hc:=iI.h {}) ?_
 apply aC
 refine cl [0] ?_
 repeat apply aA
 apply aB
 iterate 3 refine pc0 (spec:=qS _ _) (hent:=jH) ?_
 refine v0 ?_
 refine n1 150 false (hc:=iI.h {}) ?_
 refine v0 ?_
 refine n1 170 false (hc:=iI.h {}) ?_
 refine v0 ?_
 refine s1 (hc:=iI.h {}) ?_
 apply aC
 repeat apply aA
 refine aL ?_
 repeat (first|refine aH ?_|refine aE ?_|refine aD ?_)
 refine aM ?_
 refine fp ?_
 rfl
end
section
open Go.Gh
variable {E:Env Tryz.prog} {A:E.α}
structure zI (c:Prop):Prop where
 h:c:=by (first|exact True.intro|omega|(simp [P.size]<;>first|omega|(intro x a b _ h;subst h;rfl)|(intro a _;rfl))|(simp [P.size];exact ⟨by omega,fun a _=>rfl⟩)|omega|(simp only [inI];omega)|(simp [P.size,bU,bG,bR,bB,cS,good,G.one,P.one,P.cells]<;>first|omega|assumption|simp_all))
theorem aGi (s:Sch) (hv:s.valid=true):Gh.bD E 28 [.p (iA s)] (aG []) A (fun y=>y = .ok (.p (.tuple [.list (u8s (oS s)),.int .i64 0])) (aG []) A):=by
 refine spX 67 Tryz.func28 rfl ?_
 intro C hN hL
 simp only [Gh.num,List.map_cons,List.map_nil,Nat.reduceAdd]
 have hok:=aBx hv
 have hl1:=hok.ni
 have hl2:=hok.sp
 have hv1:=hok.v
 have hsv:=gJ hok.v
 unfold iA
 have hpss:∀s:Spt,pV s = .agg [.int .i64 s.e.1,.int .i64 s.e.2,.int .i64 s.n.1,.int .i64 s.n.2]:=fun _=>rfl
 have hpsn:∀s:Ngt,iY s = .agg [.int .i64 s.day,.list (s.sp.map pV)]:=fun _=>rfl
 repeat apply aA
 apply aB
 refine n1 110 false (hc:=zI.h {}) ?_
 iterate 2 refine v0 ?_
 apply aC
 refine cl [1] ?_
 repeat apply aA
 apply aB
 refine v0 ?_
 refine oc0 [] [] [0] none (spec:=aDw s (by omega) (fun n hn=>by have:=hl2 n hn;omega)) (hent:=aJ7) ?_
 refine rb 10 true (h:=by (exact hv)) ?_
 refine v0 ?_
 apply aC
 repeat apply aA
 refine cF ?_
 repeat apply aA
 refine aQ ?_
 refine cl [1] ?_
 repeat apply aA
 apply aB
 refine n1 220 true (hc:=zI.h {}) ?_
 refine v0 ?_
 refine n1 240 false (hc:=zI.h {}) ?_
 refine v0 ?_
 apply aC
 refine cl [1,4] ?_
 repeat apply aA
 rw [show [P.int IntKind.u8 83]=u8s [83] from rfl]
 apply aB
 iterate 3 refine v0 ?_
 refine oc0 [(0,240),(1,220)] [] [0,0] none (spec:=uK [83] s.v (by simp) hv1.1 hv1.2) (hent:=aCD) ?_
 apply aC
 refine cl [1,4] ?_
 repeat apply aA
 apply aB
 iterate 6 refine v0 ?_
 refine n1 350 false (hc:=zI.h {}) ?_
 refine oc0 [(0,240),(1,220)] [350] [0,1] none (spec:=rL ([83]++pL s.v) [s.st,(s.ni.length:Int)] (by simp only [List.length_append,List.length_singleton];omega) (by simp)) (hent:=aBr) ?_
 apply aC
 refine cl [1,4] ?_
 repeat apply aA
 apply aB
 iterate 4 refine v0 ?_
 apply aC
 refine cl [4,28,29,30] ?_
 repeat apply aA
 refine aP ?_
 repeat apply aA
 refine cJ (fun mz σ=>∃k:Nat,(k≤s.ni.length)∧mz=s.ni.length - k∧σ=(sg [(4,.ref 240 0),(28,.p (.list (s.ni.map iY))),(29,.p (.int .i64 (s.ni.length:Nat))),(30,.p (.int .i64 (k:Nat)))] [(240,.cells [.own 220 (iZ s++(s.ni.take k).flatMap gR).length] 0),(220,.arr 5 1 (u8s (iZ s++(s.ni.take k).flatMap gR)) false)] A []:Sg E)) ?_ (fun mz σ hI=>?_)
 ·refine gA [4,28,29,30] ?_
  exact ⟨_,0,by omega,rfl,sgE rfl (by simp [iZ])⟩
 obtain ⟨k,hk,hnn,rfl⟩:=hI
 repeat apply aA
 apply aB
 refine v0 ?_
 apply aC
 repeat apply aA
 refine cB (k1:=fun hb1=>?_) (k0:=fun hb1=>?_)
 ·replace hb1:=hB.h {} hb1
  repeat apply aA
  refine aQ ?_
  refine cl [4,28,29,30] ?_
  repeat apply aA
  refine aP ?_
  repeat apply aA
  obtain ⟨x,hx⟩:=fT (l:=s.ni) (k:=k) (by omega)
  have hxm:=List.mem_of_getElem? hx
  have hx8:=hok.sp x hxm
  have hbl:(iZ s++(s.ni.take k).flatMap gR).length≤700:=by have h1:=xJ hok;have h2:=gI (xI hok) k;have h3:=hok.ni;rw [List.length_append];omega
  apply aB
  refine v1 (hc:=zI.h {}) ?_
  refine v0 ?_
  refine n1 160 false (hc:=zI.h {}) ?_
  refine s1 (hc:=zI.h {}) ?_
  apply aC
  refine cl [4,6,28,29,30] ?_
  repeat apply aA
  apply aB
  iterate 3 refine v0 ?_
  refine oc0 [(0,240),(1,220)] [] [0,0] none (spec:=xG (iZ s++(s.ni.take k).flatMap gR) x.day (by omega) (by have:=(hok.day x hxm).1;omega) (by have:=(hok.day x hxm).2;omega)) (hent:=aGJ) ?_
  apply aC
  refine cl [4,6,28,29,30] ?_
  repeat apply aA
  apply aB
  iterate 4 refine v0 ?_
  refine n1 520 false (hc:=zI.h {}) ?_
  refine oc0 [(0,240),(1,220)] [520] [0,1] none (spec:=rL (iZ s++(s.ni.take k).flatMap gR++qO (zz x.day)) [(x.sp.length:Int)] (by have:=rM (n:=x.day) (by have:=hok.day x hxm;unfold okN at this;omega);rw [List.length_append];omega) (by simp)) (hent:=aBr) ?_
  apply aC
  refine cl [4,6,28,29,30] ?_
  repeat apply aA
  apply aB
  iterate 4 refine v0 ?_
  apply aC
  refine cl [4,28,29,30,45,46,47] ?_
  repeat apply aA
  refine aP ?_
  repeat apply aA
  refine cJ (fun mz σ=>∃j:Nat,(j≤x.sp.length)∧mz=x.sp.length - j∧σ=(sg [(4,.ref 240 0),(28,.p (.list (s.ni.map iY))),(29,.p (.int .i64 (s.ni.length:Nat))),(30,.p (.int .i64 (k:Nat))),(45,.p (.list (x.sp.map pV))),(46,.p (.int .i64 (x.sp.length:Nat))),(47,.p (.int .i64 (j:Nat)))] [(240,.cells [.own 220 ((iZ s++(s.ni.take k).flatMap gR++tT x)++(x.sp.take j).flatMap oZ).length] 0),(220,.arr 5 1 (u8s ((iZ s++(s.ni.take k).flatMap gR++tT x)++(x.sp.take j).flatMap oZ)) false)] A []:Sg E)) ?_ (fun mz σ hI=>?_)
  ·refine gA [4,28,29,30,45,46,47] ?_
   exact ⟨_,0,by omega,rfl,sgE rfl (by simp [tT])⟩
  obtain ⟨j,hj,hnj,rfl⟩:=hI
  repeat apply aA
  apply aB
  refine v0 ?_
  apply aC
  repeat apply aA
  refine cB (k1:=fun hb2=>?_) (k0:=fun hb2=>?_)
  ·replace hb2:=hB.h {} hb2
   repeat apply aA
   refine aQ ?_
   refine cl [4,28,29,30,45,46,47] ?_
   repeat apply aA
   refine aP ?_
   repeat apply aA
   obtain ⟨y,hy⟩:=fT (l:=x.sp) (k:=j) (by omega)
   have hym:=List.mem_of_getElem? hy
   obtain ⟨hye,hyn⟩:=hok.spt x hxm y hym
   have hil:((iZ s++(s.ni.take k).flatMap gR++tT x)++(x.sp.take j).flatMap oZ).length≤900:=by have h1:=aBz hok hxm;have h2:=gI (aBy hok hxm) j;have h3:=hok.sp x hxm;rw [List.length_append,List.length_append];omega
   apply aB
   refine v1 (hc:=zI.h {}) ?_
   refine v0 ?_
   refine n1 180 false (hc:=zI.h {}) ?_
   refine s1 (hc:=zI.h {}) ?_
   apply aC
   refine cl [4,8,28,29,30,45,46,47] ?_
   repeat apply aA
   apply aB
   iterate 3 refine v0 ?_
   refine oc0 [(0,240),(1,220)] [] [0,0] none (spec:=uK ((iZ s++(s.ni.take k).flatMap gR++tT x)++(x.sp.take j).flatMap oZ) y.e (by omega) hye.1 hye.2) (hent:=aCD) ?_
   apply aC
   refine cl [4,8,28,29,30,45,46,47] ?_
   repeat apply aA
   apply aB
   iterate 3 refine v0 ?_
   refine oc0 [(0,240),(1,220)] [] [0,0] none (spec:=uK ((iZ s++(s.ni.take k).flatMap gR++tT x)++(x.sp.take j).flatMap oZ++pL y.e) y.n (by have:=gJ hye;rw [List.length_append];omega) hyn.1 hyn.2) (hent:=aCD) ?_
   apply aC
   refine cl [4,28,29,30,45,46,47] ?_
   repeat apply aA
   apply aB
   refine v1 (hc:=zI.h {}) ?_
   refine v0 ?_
   apply aC
   refine dN [4,28,29,30,45,46,47] (h:=?_) (hV:=?_) (n':=x.sp.length - (j+1))
   ·omega
   exact ⟨j+1,by omega,rfl,sgE rfl (by rw [uL oZ hy,oZ,List.append_assoc,List.append_assoc])⟩
  replace hb2:=hB.h {} hb2
  repeat apply aA
  refine bY ?_
  repeat (first|refine bI ?_|refine aY ?_|refine bC ?_|refine bJ rfl ?_)
  refine cl [4,28,29,30] ?_
  repeat apply aA
  obtain rfl:j=x.sp.length:=by omega
  rw [List.take_length]
  apply aB
  refine v1 (hc:=zI.h {}) ?_
  refine v0 ?_
  apply aC
  refine dN [4,28,29,30] (h:=?_) (hV:=?_) (n':=s.ni.length - (k+1))
  ·omega
  exact ⟨k+1,by omega,rfl,sgE rfl (by rw [uL gR hx,gR,List.append_assoc,List.append_assoc])⟩
 replace hb1:=hB.h {} hb1
 repeat apply aA
 refine bY ?_
 repeat (first|refine bI ?_|refine aY ?_|refine bC ?_|refine bJ rfl ?_)
 refine cl [4] ?_
 repeat apply aA
 have hbl:(iZ s++(s.ni.take k).flatMap gR).length≤700:=by have h1:=xJ hok;have h2:=gI (xI hok) k;have h3:=hok.ni;rw [List.length_append];omega
 obtain rfl:k=s.ni.length:=by omega
 rw [List.take_length] at hbl ⊢
 have hB0:iZ s++s.ni.flatMap gR=vE s:=rfl
 rw [hB0] at hbl ⊢
 apply aB
 refine v0 ?_
 refine oc0 [(0,240),(1,220)] [] [0] none (spec:=aAx (vE s) (by omega)) (hent:=aGK) ?_
 apply aC
 refine cl [4] ?_
 repeat apply aA
 apply aB
 iterate 6 refine v0 ?_
 apply aC
 repeat apply aA
 refine pR 220 (by (simp only [aF,aI,Nat.reduceEqDiff,reduceIte]<;>rfl)) ?_
 refine cv 2 .p (hc:=by rw [bV]) ?_
 refine aL ?_
 repeat (first|refine aH ?_|refine aE ?_|refine aD ?_)
 refine aM ?_
 refine fp2 ?_
 rfl
theorem uC (s:Sch) (hv:s.valid=true):bF Tryz.prog 28 [iA s] (.ok (.tuple [.list (u8s (oS s)),.int .i64 0])):=fun E A=>aGi s hv
theorem aEX (s:Sch) (hv:s.valid=false) (h1:s.ni.length≤1048576) (h2:∀n∈s.ni,n.sp.length≤1048576):bF Tryz.prog 28 [iA s] (.ok (.tuple [.list [],.int .i64 1])):=fun E A=>vZ s hv h1 h2
theorem aOA {b:List UInt8} {s:Sch} (h:qP b=some s):yY (b.take (b.length - 2))=b∧2≤b.length∧b.length≤4096:=by
 obtain ⟨h1,h2⟩:=aBC h
 obtain ⟨_,h3⟩:=aCE h1
 rw [h2] at h3
 unfold aHT at h3
 have h4:=wB h1
 rw [h2] at h4
 refine ⟨Classical.byContradiction fun h5=>h3 (.inr h5),?_,h4⟩
 apply Nat.le_of_not_lt
 exact fun h5=>h3 (.inl h5)
theorem aCK (b:List UInt8) (s:Sch) (h:qP b=some s):bF Tryz.prog 30 [.list (u8s b)] (.ok (.tuple [iA s,.int .i64 0])):=fun E A=>by
 obtain ⟨h1,h2,h3⟩:=aOA h
 have:=aCG (E:=E) (A:=A) b h3 h2 h1
 rw [show rdS b = .tuple [iA s,.int .i64 0] by unfold rdS;rw [h]] at this
 exact this
theorem aIB (b:List UInt8) (h1:b.length≤4096) (h2:¬aHT b) (h:qP b=none):bF Tryz.prog 30 [.list (u8s b)] (.ok (.tuple [iA Sch.z,.int .i64 8])):=fun E A=>by
 have h3:yY (b.take (b.length - 2))=b:=Classical.byContradiction fun h5=>h2 (.inr h5)
 have h4:2≤b.length:=Nat.le_of_not_lt fun h5=>h2 (.inl h5)
 have:=aCG (E:=E) (A:=A) b h1 h4 h3
 rw [show rdS b = .tuple [iA Sch.z,.int .i64 8] by unfold rdS;rw [h]] at this
 exact this
theorem aIC (b:List UInt8) (h1:b.length≤4096) (h2:aHT b):bF Tryz.prog 30 [.list (u8s b)] (.ok (.tuple [iA Sch.z,.int .i64 11])):=fun E A=>by
 by_cases h3:b.length<2
 ·exact aH0 b h3
 exact aH1 b h1 (by omega) (h2.resolve_left h3)
theorem aID (b:List UInt8) (h:4096<b.length):bF Tryz.prog 30 [.list (u8s b)] (.ok (.tuple [iA Sch.z,.int .i64 3])):=fun E A=>aHZ b h
def Small (m:Msr) (p:Plt) (c:Chn) (s:Sch):Prop:=(m.se.length≤60∧m.er.length≤60∧p.st.length≤60∧c.kn.length≤60∧c.rs.length≤60∧s.ni.length≤60)∧∀n∈s.ni,n.sp.length≤60
instance decSmall (m:Msr) (p:Plt) (c:Chn) (s:Sch):Decidable (Small m p c s):=by unfold Small;infer_instance
end
section
open Go.Gh
variable {E:Env Tryz.prog} {C:Cx E} {r:Option Nat} {ops:Array Oper} {Q:GE→Sg E→Prop} {l:List (Nat×G)} {m:List (Nat×Ob)} {A:E.α} {df:List GD}
theorem drb {lo:Nat} {σ0:Sg E} {ids:List (List Nat×List Nat)} (t:Nat) (b:Bool) {x:Bool} (k:eT C r ops (cE C Q) lo σ0 ids (sg ((t,.p (.bool b))::l) m A df)) (hx:bA l t = .p (.bool x):=by (simp only [aT,Nat.reduceEqDiff,reduceIte]<;>rfl)) (h:x=b):eT C r ops (cE C Q) lo σ0 ids (sg l m A df):=by
 subst h
 rwa [sg,qW hx] at k
end
section
open Go.Gh
structure aDD (c:Prop):Prop where
 h:c:=by (first|exact True.intro|omega|(simp only [inI];omega)|(simp [P.size];done)|kernel_rfl|omega|(simp only [inI];omega)|(simp [P.size,bU,bG,bR,bB,cS,good,G.one,P.one,P.cells]<;>first|omega|assumption|simp_all))
theorem aKS:exM.valid=true:=by decide +kernel
theorem aKT:exP.valid=true:=by decide +kernel
theorem aKU:exC.valid=true:=by decide +kernel
theorem aMU:exS.valid=true:=by decide +kernel
theorem aPp:txt (gL exM)=[109,101,97,115,117,114,101,32,50,32,50,57,48,48,44,51,49,48,48,32,45,51,44,51,10,116,117,114,110,32,45,50,44,50,10,116,117,114,110,32,48,44,53,10,116,117,114,110,32,49,44,49,10,116,117,114,110,32,45,52,44,48,10,112,108,97,105,110,32,48,32,53,48,48,10,114,101,118,101,114,115,101,100,32,48,32,50,53,48,52,10,112,108,97,105,110,32,49,32,49,50,48,48,10,114,101,118,101,114,115,101,100,32,49,32,49,55,56,56,10]:=by decide +kernel
theorem aPq:txt (hQ exP)=[112,108,97,116,101,32,53,57,48,44,54,49,48,10,115,116,97,114,32,49,48,48,48,44,49,48,48,50,32,50,48,48,48,44,50,48,48,49,32,107,110,111,119,110,32,53,54,48,48,44,53,54,48,50,32,55,50,48,48,44,55,50,48,51,10,115,116,97,114,32,51,48,48,48,44,51,48,48,49,32,53,48,48,44,53,48,50,32,107,110,111,119,110,32,54,56,48,48,44,54,56,48,49,32,54,51,48,48,44,54,51,48,50,10,115,116,97,114,32,50,48,48,48,44,50,48,48,49,32,49,53,48,48,44,49,53,48,48,10]:=by decide +kernel
theorem aPr:txt (gQ exC)=[99,104,97,105,110,32,50,32,53,32,49,10,107,110,111,119,115,32,48,32,49,10,107,110,111,119,115,32,49,32,50,10,107,110,111,119,115,32,50,32,51,10,107,110,111,119,115,32,48,32,52,10,107,110,111,119,115,32,52,32,51,10,108,111,97,110,32,48,32,48,32,49,10,108,111,97,110,32,48,32,50,32,51,10,108,111,97,110,32,49,32,48,32,52,10,108,111,97,110,32,48,32,51,32,48,10]:=by decide +kernel
theorem aPs:oS exS=[83,39,80,1,1,20,1,200,1,4,100,0,26,179]:=by decide +kernel
theorem aPt:pK (txt (gL exM))=some exM:=aHR aKS
theorem aPu:pI (txt (hQ exP))=some exP:=aHP aKT
theorem aPv:pJ (txt (gQ exC))=some exC:=aHQ aKU
theorem aPw:qP (oS exS)=some exS:=(aCE aMU).1
theorem aG1:aJ Tryz.prog 13:=aJ.mk Tryz.func13 (by kernel_rfl) rfl
theorem aAB  : bF Tryz.prog 13 [] (.ok (.bool true)):=by
 refine bL Tryz.func13 (rfl:Tryz.f13.body=some _) rfl ?_
 intro E A C hN hL
 replace hN:C.N=123:=hN
 simp only [Gh.num,List.map_cons,List.map_nil,Nat.reduceAdd]
 have hm9:gE exM = .agg [.list (exM.er.map pSp),.int .i64 exM.ey.1,.int .i64 exM.ey.2,.int .i64 exM.im,.int .i64 exM.su.1,.int .i64 exM.su.2,.list (exM.se.map fK)]:=rfl
 have hp9:gC exP = .agg [.int .i64 exP.sc.1,.int .i64 exP.sc.2,.list (exP.st.map eE)]:=rfl
 have hc9:gD exC = .agg [.int .i64 exC.pl,.int .i64 exC.ps,.list (exC.kn.map pSp),.list (exC.rs.map pRc),.int .i64 exC.ms]:=rfl
 have hs9:iA exS = .agg [.int .i64 exS.v.1,.int .i64 exS.v.2,.list (exS.ni.map iY),.int .i64 exS.st]:=rfl
 repeat apply aA
 apply aB
 refine v0 ?_
 apply aC
 refine cl [] ?_
 repeat apply aA
 apply aB
 refine pc0 (spec:=aMN) (hent:=aMM) ?_
 refine pc0 (spec:=aBM exM aKS) (hent:=aMo) ?_
 iterate 5 refine v0 ?_
 apply aC
 refine cl [1,2] ?_
 repeat apply aA
 apply aB
 refine pc0 (spec:=aMP) (hent:=aMO) ?_
 refine pc0 (spec:=aBK exP aKT) (hent:=aMm) ?_
 iterate 5 refine v0 ?_
 apply aC
 refine cl [1,2,3,4] ?_
 repeat apply aA
 apply aB
 refine pc0 (spec:=aMR) (hent:=aMQ) ?_
 refine pc0 (spec:=aBL exC aKU) (hent:=aMn) ?_
 iterate 5 refine v0 ?_
 apply aC
 refine cl [1,2,3,4,5,6] ?_
 repeat apply aA
 apply aB
 refine pc0 (spec:=aMT) (hent:=aMS) ?_
 refine pc0 (spec:=uC exS aMU) (hent:=aBA) ?_
 iterate 5 refine v0 ?_
 apply aC
 refine cl [1,2,3,4,5,6,7,8] ?_
 repeat apply aA
 apply aB
 iterate 2 refine v0 ?_
 refine rb 38 false (h:=by (first|(rw [aPp];simp;done)|rfl)) ?_
 refine v0 ?_
 iterate 2 refine w0 ?_
 refine rb 41 false (h:=by (first|rfl|(simp;done)|decide)) ?_
 iterate 2 refine v0 ?_
 iterate 2 refine w0 ?_
 refine rb 45 false (h:=by (first|(rw [aPq];simp;done)|rfl)) ?_
 iterate 2 refine v0 ?_
 iterate 2 refine w0 ?_
 refine rb 49 false (h:=by (first|rfl|(simp;done)|decide)) ?_
 iterate 2 refine v0 ?_
 iterate 2 refine w0 ?_
 refine rb 53 false (h:=by (first|(rw [aPr];simp;done)|rfl)) ?_
 iterate 2 refine v0 ?_
 iterate 2 refine w0 ?_
 refine rb 57 false (h:=by (first|rfl|(simp;done)|decide)) ?_
 iterate 2 refine v0 ?_
 refine w0 ?_
 refine nw 710 false (hc:=aDD.h {}) ?_
 refine pcw (spec:=aG0 (oS exS) [83,39,80,1,1,20,1,200,1,4,100,0,26,179]) (hent:=aML) ?_
 refine rb 62 true (h:=by (exact decide_eq_true aPs)) ?_
 refine w0 ?_
 iterate 2 refine v0 ?_
 iterate 2 refine w0 ?_
 refine rb 67 false (h:=by (first|rfl|(simp;done)|decide)) ?_
 refine v0 ?_
 apply aC
 repeat apply aA
 refine cF ?_
 repeat apply aA
 refine aQ ?_
 refine cl [1,3,5,7] ?_
 repeat apply aA
 apply aB
 refine v0 ?_
 refine pc0 (spec:=aCJ _ exM (aDv aKS).2 aPt) (hent:=aMG) ?_
 iterate 3 refine v0 ?_
 refine n1 190 false (hc:=aDD.h {}) ?_
 refine s1 (hc:=aDD.h {}) ?_
 refine v0 ?_
 apply aC
 refine cl [3,5,7,9,10] ?_
 repeat apply aA
 apply aB
 refine v0 ?_
 refine pc0 (spec:=aCH _ exP (aDt aKT).2 aPu) (hent:=aMt) ?_
 iterate 3 refine v0 ?_
 refine n1 210 false (hc:=aDD.h {}) ?_
 refine s1 (hc:=aDD.h {}) ?_
 refine v0 ?_
 apply aC
 refine cl [5,7,9,10,11,12] ?_
 repeat apply aA
 apply aB
 refine v0 ?_
 refine pc0 (spec:=aCI _ exC (aDu aKU).2 aPv) (hent:=aMz) ?_
 iterate 3 refine v0 ?_
 refine n1 230 false (hc:=aDD.h {}) ?_
 refine s1 (hc:=aDD.h {}) ?_
 refine v0 ?_
 apply aC
 refine cl [7,9,10,11,12,13,14] ?_
 repeat apply aA
 apply aB
 refine v0 ?_
 refine pc0 (spec:=aCK _ exS aPw) (hent:=aMj) ?_
 iterate 3 refine v0 ?_
 refine n1 250 false (hc:=aDD.h {}) ?_
 refine s1 (hc:=aDD.h {}) ?_
 refine v0 ?_
 apply aC
 refine cl [9,10,11,12,13,14,15,16] ?_
 repeat apply aA
 refine rd ?_
 refine d0 0 ?_
 refine oY 1 (spec:=aMN) (hent:=aMM) ?_
 refine oY 2 (spec:=aGW exM exM (by decide) (by decide) (by decide) (by decide)) (hent:=aMH) ?_
 refine drb 91 true (h:=by (simp)) ?_
 refine d0 3 ?_
 refine dw0 4 ?_
 refine dw0 5 ?_
 refine drb 94 true (h:=by (first|rfl|simp)) ?_
 refine d0 6 ?_
 refine d0 7 ?_
 refine dw0 8 ?_
 refine aHx 9 (spec:=aMP) (hent:=aMO) ?_
 refine aHx 10 (spec:=aGX exP exP (by decide) (by decide)) (hent:=aMI) ?_
 refine drb 99 true (h:=by (simp)) ?_
 refine d0 11 ?_
 refine d0 12 ?_
 refine dw0 13 ?_
 refine dw0 14 ?_
 refine drb 103 true (h:=by (first|rfl|simp)) ?_
 refine d0 15 ?_
 refine d0 16 ?_
 refine dw0 17 ?_
 refine aHx 18 (spec:=aMR) (hent:=aMQ) ?_
 refine aHx 19 (spec:=aGY exC exC (by decide) (by decide) (by decide) (by decide)) (hent:=aMJ) ?_
 refine drb 108 true (h:=by (simp)) ?_
 refine d0 20 ?_
 refine d0 21 ?_
 refine dw0 22 ?_
 refine dw0 23 ?_
 refine drb 112 true (h:=by (first|rfl|simp)) ?_
 refine d0 24 ?_
 refine d0 25 ?_
 refine dw0 26 ?_
 refine aHx 27 (spec:=aMT) (hent:=aMS) ?_
 refine aHx 28 (spec:=aGZ exS exS (by decide) (by decide) (by decide) (by decide)) (hent:=aMK) ?_
 refine drb 117 true (h:=by (simp)) ?_
 refine d0 29 ?_
 refine d0 30 ?_
 refine dw0 31 ?_
 refine dw0 32 ?_
 refine drb 121 true (h:=by (first|rfl|simp)) ?_
 refine d0 33 ?_
 refine d0 34 ?_
 refine dz 35 [0,0,3,7,15,31,63,127,255,255,1023,2047,4095,8191,16383,32767,65535,131071,131071,524287,1048575,2097151,4194303,8388607,16777215,33554431,67108863,67108863,268435455,536870911,1073741823,2147483647,4294967295,8589934591,17179869183] ?_
 refine de 35 ?_
 repeat apply aA
 refine aL ?_
 repeat (first|refine aH ?_|refine aE ?_|refine aD ?_)
 refine aM ?_
 refine fp ?_
 rfl
end
section
open Go.Gh
end
section
open Go.Gh
def Q3 (e:Int) (n:Nat):Prop:=(3≤e∧e≤3∧4096<n)∨(8≤e∧e≤8∧n≤4096)∨(0≤e∧e≤0∧n≤4096)
def Q4 (e:Int) (n:Nat):Prop:=(3≤e∧e≤3∧4096<n)∨(8≤e∧e≤8∧n≤4096)∨(11≤e∧e≤11∧n≤4096)∨(0≤e∧e≤0∧n≤4096)
theorem aL1 (s:Str):∃(m:Msr) (e:Int) (t:Str) (w:Int),bF Tryz.prog 16 [.str s] (.ok (.tuple [gE m,.int .i64 e]))∧bF Tryz.prog 14 [gE m] (.ok (.tuple [.str t,.int .i64 w])) ∧
  (m.er.length≤1048576∧m.se.length≤1048576)∧Q3 e s.length∧((0≤e∧e≤0∧0≤w∧w≤0∧¬ ¬t=s)∨(1≤e∧decide (m=Msr.z)=true))∧(e=0→∃l,s=109::l):=by
 have bad:∀e:Int,1≤e→bF Tryz.prog 16 [.str s] (.ok (.tuple [gE Msr.z,.int .i64 e]))→Q3 e s.length→∃(m:Msr) (e:Int) (t:Str) (w:Int),bF Tryz.prog 16 [.str s] (.ok (.tuple [gE m,.int .i64 e]))∧bF Tryz.prog 14 [gE m] (.ok (.tuple [.str t,.int .i64 w])) ∧
   (m.er.length≤1048576∧m.se.length≤1048576)∧Q3 e s.length∧((0≤e∧e≤0∧0≤w∧w≤0∧¬ ¬t=s)∨(1≤e∧decide (m=Msr.z)=true))∧(e=0→∃l,s=109::l):=fun e he hp hq=>
  ⟨_,_,_,_,hp,aF7 _ (by decide) (by decide) (by decide),⟨by decide,by decide⟩,hq,.inr ⟨he,decide_eq_true rfl⟩,fun h=>by omega⟩
 by_cases h:s.length≤4096
 ·cases hr:pK s with
  |none=>exact bad 8 (by omega) (aIz s h hr) (.inr (.inl ⟨by omega,by omega,h⟩))
  |some m=>
   obtain ⟨hv,ht⟩:=aFK hr
   have H:=aJZ hv
   refine ⟨_,_,_,_,aCJ s m h hr,aBM m hv,⟨by have:=H.ne;omega,by have:=H.ns;omega⟩,.inr (.inr ⟨by omega,by omega,h⟩),.inl ⟨by omega,by omega,by omega,by omega,not_not_intro ht⟩,fun _=>?_⟩
   rw [←ht]
   exact ⟨_,rfl⟩
 exact bad 3 (by omega) (aIA s (by omega)) (.inl ⟨by omega,by omega,by omega⟩)
theorem aL2 (s:Str):∃(m:Plt) (e:Int) (t:Str) (w:Int),bF Tryz.prog 20 [.str s] (.ok (.tuple [gC m,.int .i64 e]))∧bF Tryz.prog 18 [gC m] (.ok (.tuple [.str t,.int .i64 w])) ∧
  m.st.length≤1048576∧Q3 e s.length∧((0≤e∧e≤0∧0≤w∧w≤0∧¬ ¬t=s)∨(1≤e∧decide (m=Plt.z)=true))∧(e=0→∃l,s=112::l):=by
 have bad:∀e:Int,1≤e→bF Tryz.prog 20 [.str s] (.ok (.tuple [gC Plt.z,.int .i64 e]))→Q3 e s.length→∃(m:Plt) (e:Int) (t:Str) (w:Int),bF Tryz.prog 20 [.str s] (.ok (.tuple [gC m,.int .i64 e]))∧bF Tryz.prog 18 [gC m] (.ok (.tuple [.str t,.int .i64 w])) ∧
   m.st.length≤1048576∧Q3 e s.length∧((0≤e∧e≤0∧0≤w∧w≤0∧¬ ¬t=s)∨(1≤e∧decide (m=Plt.z)=true))∧(e=0→∃l,s=112::l):=fun e he hp hq=>
  ⟨_,_,_,_,hp,aF5 _ (by decide) (by decide),by decide,hq,.inr ⟨he,decide_eq_true rfl⟩,fun h=>by omega⟩
 by_cases h:s.length≤4096
 ·cases hr:pI s with
  |none=>exact bad 8 (by omega) (aIt s h hr) (.inr (.inl ⟨by omega,by omega,h⟩))
  |some m=>
   obtain ⟨hv,ht⟩:=aFI hr
   have hn:m.st.length≤10:=by
    simp only [Plt.valid,Bool.and_eq_true,decide_eq_true_eq] at hv
    omega
   refine ⟨_,_,_,_,aCH s m h hr,aBK m hv,by omega,.inr (.inr ⟨by omega,by omega,h⟩),.inl ⟨by omega,by omega,by omega,by omega,not_not_intro ht⟩,fun _=>?_⟩
   rw [←ht]
   exact ⟨_,rfl⟩
 exact bad 3 (by omega) (aIu s (by omega)) (.inl ⟨by omega,by omega,by omega⟩)
theorem aL3 (s:Str):∃(m:Chn) (e:Int) (t:Str) (w:Int),bF Tryz.prog 26 [.str s] (.ok (.tuple [gD m,.int .i64 e]))∧bF Tryz.prog 24 [gD m] (.ok (.tuple [.str t,.int .i64 w])) ∧
  (m.kn.length≤1048576∧m.rs.length≤1048576)∧Q3 e s.length∧((0≤e∧e≤0∧0≤w∧w≤0∧¬ ¬t=s)∨(1≤e∧decide (m=Chn.z)=true))∧(e=0→∃l,s=99::l):=by
 have bad:∀e:Int,1≤e→bF Tryz.prog 26 [.str s] (.ok (.tuple [gD Chn.z,.int .i64 e]))→Q3 e s.length→∃(m:Chn) (e:Int) (t:Str) (w:Int),bF Tryz.prog 26 [.str s] (.ok (.tuple [gD m,.int .i64 e]))∧bF Tryz.prog 24 [gD m] (.ok (.tuple [.str t,.int .i64 w])) ∧
   (m.kn.length≤1048576∧m.rs.length≤1048576)∧Q3 e s.length∧((0≤e∧e≤0∧0≤w∧w≤0∧¬ ¬t=s)∨(1≤e∧decide (m=Chn.z)=true))∧(e=0→∃l,s=99::l):=fun e he hp hq=>
  ⟨_,_,_,_,hp,aF6 _ (by decide) (by decide) (by decide),⟨by decide,by decide⟩,hq,.inr ⟨he,decide_eq_true rfl⟩,fun h=>by omega⟩
 by_cases h:s.length≤4096
 ·cases hr:pJ s with
  |none=>exact bad 8 (by omega) (aIw s h hr) (.inr (.inl ⟨by omega,by omega,h⟩))
  |some m=>
   obtain ⟨hv,ht⟩:=aFJ hr
   have H:=aJY hv
   refine ⟨_,_,_,_,aCI s m h hr,aBL m hv,⟨by have:=H.nk;omega,by have:=H.nr;omega⟩,.inr (.inr ⟨by omega,by omega,h⟩),.inl ⟨by omega,by omega,by omega,by omega,not_not_intro ht⟩,fun _=>?_⟩
   rw [←ht]
   exact ⟨_,rfl⟩
 exact bad 3 (by omega) (aIx s (by omega)) (.inl ⟨by omega,by omega,by omega⟩)
theorem aL4 (b:List UInt8):∃(m:Sch) (e:Int) (t:List UInt8) (w:Int),bF Tryz.prog 30 [.list (u8s b)] (.ok (.tuple [iA m,.int .i64 e]))∧bF Tryz.prog 28 [iA m] (.ok (.tuple [.list (u8s t),.int .i64 w])) ∧
  (m.ni.length≤1048576∧∀n∈m.ni,n.sp.length≤1048576)∧Q4 e b.length∧((0≤e∧e≤0∧0≤w∧w≤0∧¬ ¬t=b)∨(1≤e∧decide (m=Sch.z)=true)):=by
 have zz:(Sch.z.ni.length≤1048576∧∀n∈Sch.z.ni,n.sp.length≤1048576):=⟨by decide,fun n hn=>by simp [Sch.z] at hn⟩
 have bad:∀e:Int,1≤e→bF Tryz.prog 30 [.list (u8s b)] (.ok (.tuple [iA Sch.z,.int .i64 e]))→Q4 e b.length→∃(m:Sch) (e:Int) (t:List UInt8) (w:Int),bF Tryz.prog 30 [.list (u8s b)] (.ok (.tuple [iA m,.int .i64 e]))∧bF Tryz.prog 28 [iA m] (.ok (.tuple [.list (u8s t),.int .i64 w])) ∧
   (m.ni.length≤1048576∧∀n∈m.ni,n.sp.length≤1048576)∧Q4 e b.length∧((0≤e∧e≤0∧0≤w∧w≤0∧¬ ¬t=b)∨(1≤e∧decide (m=Sch.z)=true)):=fun e he hp hq=>by
  by_cases hv:Sch.z.valid=true
  ·exact ⟨_,_,_,_,hp,uC _ hv,zz,hq,.inr ⟨he,decide_eq_true rfl⟩⟩
  exact ⟨_,_,[],_,hp,aEX _ (by simpa using hv) zz.1 zz.2,zz,hq,.inr ⟨he,decide_eq_true rfl⟩⟩
 by_cases h:b.length≤4096
 ·by_cases hf:aHT b
  ·exact bad 11 (by omega) (aIC b h hf) (.inr (.inr (.inl ⟨by omega,by omega,h⟩)))
  cases hr:qP b with
  |none=>exact bad 8 (by omega) (aIB b h hf hr) (.inr (.inl ⟨by omega,by omega,h⟩))
  |some m=>
   obtain ⟨hv,ht⟩:=aBC hr
   have H:=aBx hv
   exact ⟨_,_,_,_,aCK b m hr,uC m hv,⟨by have:=H.ni;omega,fun n hn=>by have:=H.sp n hn;omega⟩,.inr (.inr (.inr ⟨by omega,by omega,h⟩)),.inl ⟨by omega,by omega,by omega,by omega,not_not_intro ht⟩⟩
 exact bad 3 (by omega) (aID b (by omega)) (.inl ⟨by omega,by omega,by omega⟩)
def zc (e1 e2 e3:Int) (k:Nat):Int:=(if 1≤k∧e1=0 then 1 else 0)+(if 2≤k∧e2=0 then 1 else 0)+(if 3≤k∧e3=0 then 1 else 0)
theorem aPx (e1 e2 e3:Int) (k:Nat):0≤zc e1 e2 e3 k∧zc e1 e2 e3 k≤3:=by
 unfold zc
 constructor<;>(split<;>split<;>split<;>omega)
theorem aOB {e1 e2 e3:Int} {s:Str} (h1:e1=0→∃l,s=109::l) (h2:e2=0→∃l,s=112::l) (h3:e3=0→∃l,s=99::l) (k:Nat):zc e1 e2 e3 k≤1:=by
 have a:¬(e1=0∧e2=0):=fun ⟨a,b⟩=>by
  obtain ⟨l,hl⟩:=h1 a;obtain ⟨l2,hl2⟩:=h2 b
  rw [hl] at hl2;simp at hl2
 have b:¬(e1=0∧e3=0):=fun ⟨a,b⟩=>by
  obtain ⟨l,hl⟩:=h1 a;obtain ⟨l2,hl2⟩:=h3 b
  rw [hl] at hl2;simp at hl2
 have c:¬(e2=0∧e3=0):=fun ⟨a,b⟩=>by
  obtain ⟨l,hl⟩:=h2 a;obtain ⟨l2,hl2⟩:=h3 b
  rw [hl] at hl2;simp at hl2
 unfold zc
 split<;>split<;>split<;>omega
theorem kq {e:Int} {n:Nat} (h:Q3 e n):(!(decide (e=3)==decide ((4096:Int)<(n:Int))))=false:=by
 rw [Bool.not_eq_false',beq_iff_eq,decide_eq_decide]
 unfold Q3 at h
 omega
theorem kq4 {e:Int} {n:Nat} (h:Q4 e n):(!(decide (e=3)==decide ((4096:Int)<(n:Int))))=false:=by
 rw [Bool.not_eq_false',beq_iff_eq,decide_eq_decide]
 unfold Q4 at h
 omega
end
end Go.Proofs.YtecmhhpccmaeiaaGreatDoor
