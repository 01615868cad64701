/- What functions of the program return, each for every input that its theorem names. Made small by a program of ours. -/
import Derived.Test.YtecmhhpccmaeiaaGreatDoorB1
import Derived.Lib.AtoiTie
set_option linter.unusedVariables false
set_option linter.unusedSimpArgs false
set_option maxRecDepth 100000
set_option maxHeartbeats 4000000
namespace Go.Proofs.YtecmhhpccmaeiaaGreatDoor
section
open Go.Gh
structure aHJ (c:Prop):Prop where
 h:c:=by (first|exact True.intro|omega|(simp only [inI];omega)|(simp [P.size,bU,bG,bR,bB,cS,good,G.one,P.one,P.cells]<;>first|omega|assumption|simp_all))
theorem aGB {α:Type} {l:List α} {k:Nat} {x:α} {tl:List α} (h:l.drop k=x::tl):l[k]? = some x∧l.drop (k+1)=tl:=by
 constructor
 ·have:=congrArg (·[0]?) h
  simpa using this
 rw [←List.drop_drop,h];rfl
theorem rC {α:Type} {l:List α} {k:Nat} (h:l.drop k=[]) (hk:k≤l.length):k=l.length:=by
 have:=congrArg List.length h
 rw [List.length_drop,List.length_nil] at this;omega
theorem aFF:∀(s:Str) (i:Nat),Lib.indexByte s 10=i→i<s.length
 |[],i,h=>by exfalso;simp only [Lib.indexByte] at h;omega
 |b::l,i,h=>by
  rw [List.length_cons]
  unfold Lib.indexByte at h
  by_cases hb:b=10
  ·subst hb
   have hi:i=0:=by simpa using h.symm
   omega
  have h1:(b==10)=false:=by simpa using hb
  rw [h1] at h
  simp only [Bool.false_eq_true,if_false] at h
  have hge:=Lib.indexByte_ge l 10
  by_cases hm:Lib.indexByte l 10 = -1
  ·exfalso;rw [hm] at h;simp only [BEq.rfl,if_true] at h;omega
  obtain ⟨j,hj⟩:=Int.eq_ofNat_of_zero_le (show 0≤Lib.indexByte l 10 by omega)
  rw [hj] at h
  have e1:((j:Int) == -1)=false:=by simp
  rw [e1] at h
  simp only [Bool.false_eq_true,if_false] at h
  have:=aFF l j hj
  omega
abbrev yls (s:Str):List (List Y0):=(bT s).map fun l=>[Y0.p (.str l)]
theorem yP {s ln:Str} {k:Nat} (h:(bT s)[k]? = some ln):(yls s)[k]? = some [Y0.p (.str ln)]:=by rw [yls,List.getElem?_map,h];rfl
theorem aOW (rest:Str) (i:Nat):P.str (List.take (((i:Int)+1).toNat - 0) rest)=P.str (rest.take (i+1)):=by rw [show ((i:Int)+1).toNat - 0=i+1 by omega]
theorem aOX (rest:Str) (i:Nat):P.str (List.take (rest.length - ((i:Int)+1).toNat) (List.drop ((i:Int)+1).toNat rest))=P.str (rest.drop (i+1)):=by
 rw [show ((i:Int)+1).toNat=i+1 by omega,List.take_of_length_le (Nat.le_of_eq (List.length_drop ..))]
theorem aJG {s rest:Str} {k i:Nat} (hdr:bT rest=(bT s).drop k) (hi:Lib.indexByte rest 10=i):∃ln r2,P.str (rest.take (i+1))=P.str ln∧P.str (rest.drop (i+1))=P.str r2∧r2.length<rest.length∧(bT s)[k]? = some ln∧(bT s).drop (k+1)=bT r2:=by
 have hil:=aFF rest i hi
 have hat:=aGB (hdr.symm.trans (aCv rest i hi))
 exact ⟨_,_,rfl,rfl,by rw [List.length_drop];omega,hat.1,hat.2⟩
theorem aJH {s rest:Str} {k:Nat} (hdr:bT rest=(bT s).drop k) (hne:rest≠[]) (hi:Lib.indexByte rest 10 = -1):∃ln r2,P.str rest=P.str ln∧P.str []=P.str r2∧r2.length<rest.length∧(bT s)[k]? = some ln∧(bT s).drop (k+1)=bT r2:=by
 have hat:=aGB (hdr.symm.trans (zT rest hne hi))
 exact ⟨_,[],rfl,rfl,List.length_pos_iff.2 hne,hat.1,hat.2⟩
theorem aNw:aJ Tryz.prog 169:=aJ.mk Tryz.func169 (by kernel_rfl) rfl
theorem aNx:aJ Tryz.prog 168:=aJ.mk Tryz.func168 (by kernel_rfl) rfl
theorem aJI (s:Str) (h:s.length≤100000) (pan:Bool) :
  aCq Tryz.prog 168 [.abs,.ref 0 0] (aG [(0,.cells [.p (.str s)] 0)]) (yls s) none pan:=by
 intro E J Z ZP hcan hy A hA
 refine spX 25 Tryz.func168 rfl ?_
 intro C hN hL
 simp only [Gh.num,List.map_cons,List.map_nil,Nat.reduceAdd]
 repeat apply aA
 refine aP ?_
 repeat apply aA
 refine cJ (fun mz σ=>∃(k:Nat) (A2:E.α) (rest:Str),(k≤(bT s).length)∧(J k A2)∧(bT rest=(bT s).drop k)∧(rest.length≤100000)∧mz=rest.length∧σ=(sg [(0,.abs),(1,.ref 0 0)] [(0,.cells [.p (.str rest)] 0)] A2 []:Sg E)) ?_ (fun mz σ hI=>?_)
 ·refine gA [0,1] ?_
  exact ⟨_,0,A,s,by omega,hA,by simp,h,rfl,rfl⟩
 obtain ⟨k,A2,rest,hk,hJ,hdr,hrl,hn,rfl⟩:=hI
 repeat apply aA
 apply aB
 iterate 3 refine v0 ?_
 apply aC
 repeat apply aA
 refine cB (k1:=fun hb1=>?_) (k0:=fun hb1=>?_)
 ·replace hb1:=hB.h {} hb1
  repeat apply aA
  refine aQ ?_
  refine cl [0,1] ?_
  repeat apply aA
  refine aP ?_
  repeat apply aA
  apply aB
  refine v0 ?_
  apply aC
  refine cl [0,1] ?_
  repeat apply aA
  apply aB
  refine v0 ?_
  refine pc0 (spec:=aEt rest 10) (hent:=aNw) ?_
  refine v0 ?_
  apply aC
  refine cl [0,1,4] ?_
  repeat apply aA
  apply aB
  iterate 2 refine v0 ?_
  apply aC
  repeat apply aA
  refine cB (k1:=fun hb2=>?_) (k0:=fun hb2=>?_)
  ·replace hb2:=hB.h {} hb2
   repeat apply aA
   obtain ⟨i,hi⟩:=Int.eq_ofNat_of_zero_le (show 0≤Lib.indexByte rest 10 by assumption)
   have hil:=aFF rest i hi
   rw [hi]
   refine rd ?_
   refine d0 0 ?_
   refine d0 1 ?_
   refine d1 2 (hc:=aHJ.h {}) ?_
   refine d1 3 (hc:=aHJ.h {}) ?_
   refine d0 4 ?_
   refine d0 5 ?_
   refine d1 6 (hc:=aHJ.h {}) ?_
   refine d1 7 (hc:=aHJ.h {}) ?_
   refine d0 8 ?_
   refine ds1 9 (hc:=aHJ.h {}) ?_
   refine dz 10 [0,0,2,7,0,0,32,112,15,511] ?_
   refine de 10 ?_
   refine cl [0,1,3] ?_
   repeat apply aA
   first|(obtain ⟨ln,r2,h1,h2,hrl2,hat⟩:=aJG hdr hi;rw [aOW rest i,aOX rest i,h1,h2])|(obtain ⟨ln,r2,h1,h2,hrl2,hat⟩:=aJH hdr hne hi;rw [h1,h2])
   apply aB
   iterate 2 refine v0 ?_
   refine y0 (xs:=[P.str ln]) (hcan:=?_) (k:=fun b A3 hY=>?_) (kp:=fun p A3 hY=>?_)
   ·exact hcan _ _ _ hJ (yP hat.1)
   ·have hy2:=hy _ _ _ _ _ hJ (yP hat.1) hY
    refine v0 ?_
    apply aC
    repeat apply aA
    refine cB (k1:=fun hb3=>?_) (k0:=fun hb3=>?_)
    ·replace hb3:=hB.h {} hb3
     repeat apply aA
     refine aL ?_
     repeat (first|refine aH ?_|refine aE ?_|refine aD ?_)
     refine aM ?_
     refine fp0 ?_
     first
     |(
       obtain rfl:b=false:=by simp_all
       exact .inl ⟨_,_,_,rfl,.inr hy2⟩)
     |(have hr0:rest=[]:=List.length_eq_zero_iff.1 (by omega);subst hr0;have hkl:=rC hdr.symm hk;exact .inl ⟨_,_,_,rfl,.inl ⟨trivial,by rw [yls,List.length_map,←hkl];exact hJ⟩⟩)
    replace hb3:=hB.h {} hb3
    repeat apply aA
    refine aQ ?_
    repeat refine bZ ?_
    refine dN [0,1] (h:=?_) (hV:=?_) (n':=r2.length)
    ·omega
    obtain rfl:b=true:=by simp_all
    exact ⟨k+1,A3,r2,by have:=(List.getElem?_eq_some_iff.1 hat.1).1;omega,hy2,hat.2.symm,by omega,rfl,rfl⟩
   have hy2:=hy _ _ _ _ _ hJ (yP hat.1) hY
   repeat (first|refine aO ?_|refine aN ?_)
   refine fph [] ?_
   exact .inr ⟨_,_,_,rfl,.inr hy2.2⟩
  replace hb2:=hB.h {} hb2
  repeat apply aA
  have hi:Lib.indexByte rest 10 = -1:=by have:=Lib.indexByte_ge rest 10;omega
  have hne:rest≠[]:=by intro e;subst e;simp at *
  apply aB
  iterate 2 refine v0 ?_
  refine s1 (hc:=aHJ.h {}) ?_
  apply aC
  refine cl [0,1,3] ?_
  repeat apply aA
  first|(obtain ⟨ln,r2,h1,h2,hrl2,hat⟩:=aJG hdr hi;rw [aOW rest i,aOX rest i,h1,h2])|(obtain ⟨ln,r2,h1,h2,hrl2,hat⟩:=aJH hdr hne hi;rw [h1,h2])
  apply aB
  iterate 2 refine v0 ?_
  refine y0 (xs:=[P.str ln]) (hcan:=?_) (k:=fun b A3 hY=>?_) (kp:=fun p A3 hY=>?_)
  ·exact hcan _ _ _ hJ (yP hat.1)
  ·have hy2:=hy _ _ _ _ _ hJ (yP hat.1) hY
   refine v0 ?_
   apply aC
   repeat apply aA
   refine cB (k1:=fun hb4=>?_) (k0:=fun hb4=>?_)
   ·replace hb4:=hB.h {} hb4
    repeat apply aA
    refine aL ?_
    repeat (first|refine aH ?_|refine aE ?_|refine aD ?_)
    refine aM ?_
    refine fp0 ?_
    first
    |(
      obtain rfl:b=false:=by simp_all
      exact .inl ⟨_,_,_,rfl,.inr hy2⟩)
    |(have hr0:rest=[]:=List.length_eq_zero_iff.1 (by omega);subst hr0;have hkl:=rC hdr.symm hk;exact .inl ⟨_,_,_,rfl,.inl ⟨trivial,by rw [yls,List.length_map,←hkl];exact hJ⟩⟩)
   replace hb4:=hB.h {} hb4
   repeat apply aA
   refine aQ ?_
   repeat refine bZ ?_
   refine dN [0,1] (h:=?_) (hV:=?_) (n':=r2.length)
   ·omega
   obtain rfl:b=true:=by simp_all
   exact ⟨k+1,A3,r2,by have:=(List.getElem?_eq_some_iff.1 hat.1).1;omega,hy2,hat.2.symm,by omega,rfl,rfl⟩
  have hy2:=hy _ _ _ _ _ hJ (yP hat.1) hY
  repeat (first|refine aO ?_|refine aN ?_)
  refine fph [] ?_
  exact .inr ⟨_,_,_,rfl,.inr hy2.2⟩
 replace hb1:=hB.h {} hb1
 repeat apply aA
 refine bY ?_
 repeat (first|refine bI ?_|refine aY ?_|refine bC ?_|refine bJ rfl ?_)
 try refine bP ?_
 refine cW ?_
 refine fp0 ?_
 first
 |(
   obtain rfl:b=false:=by simp_all
   exact .inl ⟨_,_,_,rfl,.inr hy2⟩)
 |(have hr0:rest=[]:=List.length_eq_zero_iff.1 (by omega);subst hr0;have hkl:=rC hdr.symm hk;exact .inl ⟨_,_,_,rfl,.inl ⟨trivial,by rw [yls,List.length_map,←hkl];exact hJ⟩⟩)
end
section
open Go.Gh
variable {E:Env Tryz.prog} {A:E.α}
structure aOY (c:Prop):Prop where
 h:c:=by (first|exact True.intro|omega|(simp only [inI];omega)|(simp [P.size,bU,bG,bR,bB,cS,good,G.one,P.one,P.cells]<;>first|omega|assumption|simp_all))
theorem aNy:aJ Tryz.prog 146:=aJ.mk Tryz.func146 (by kernel_rfl) rfl
theorem aLE (s:Str):Gh.bD E 146 [.p (.str s)] (aG []) A (fun y=>y = .ok (.fn (.func 168) [] [.ref 110 0]) (aG [(110,.cells [.p (.str s)] 0)]) A):=by
 refine spX 4 Tryz.func146 rfl ?_
 intro C hN hL
 simp only [Gh.num,List.map_cons,List.map_nil,Nat.reduceAdd]
 repeat apply aA
 apply aB
 refine n1 110 false (hc:=aOY.h {}) ?_
 refine v0 ?_
 apply aC
 refine cl [1] ?_
 repeat apply aA
 apply aB
 iterate 2 refine v0 ?_
 apply aC
 repeat apply aA
 refine aL ?_
 repeat (first|refine aH ?_|refine aE ?_|refine aD ?_)
 refine aM ?_
 refine fh [110] ?_
 rfl
theorem yQ:aJ Tryz.prog 106:=aJ.mk Tryz.func106 (by kernel_rfl) rfl
theorem jG (s:Str):Gh.bD E 106 [.p (.str s)] (aG []) A (fun y=>y = .ok (.fn (.func 144) [] [.ptr [.p (.str s)]]) (aG []) A):=by
 refine spX 4 Tryz.func106 rfl ?_
 intro C hN hL
 simp only [Gh.num,List.map_cons,List.map_nil,Nat.reduceAdd]
 repeat apply aA
 apply aB
 refine n1 110 false (hc:=aOY.h {}) ?_
 refine v0 ?_
 apply aC
 refine cl [1] ?_
 repeat apply aA
 apply aB
 iterate 2 refine v0 ?_
 apply aC
 repeat apply aA
 refine fz 110 1 [.k] ?_
 refine cv 2 (.f [.n [.k]]) ?_
 refine aL ?_
 repeat (first|refine aH ?_|refine aE ?_|refine aD ?_)
 refine aM ?_
 refine fh [] ?_
 rfl
end
section
open Go.Gh
structure eS1 {α:Type} (a b:α):Prop where
 h:a=b:=by (simp only [aEc,List.map_cons,List.map_nil,G.men,G.mens,Nat.reduceBEq,Bool.or_false,Bool.false_or,Bool.or_true,Bool.true_or,cond_true,cond_false]<;>rfl)
structure eS2 {α:Type} (a b:α):Prop where
 h:a=b:=by (simp only [zQ,eL,dM,gN,dA,bO,bS,iS,nF,dP,G.idl,G.idls,cA,List.nil_append,List.append_nil,List.cons_append,aF,aI,Nat.reduceEqDiff,reduceIte,List.mem_cons,List.not_mem_nil,or_false,or_true,true_or,false_or,List.filter_cons,List.filter_nil,ne_eq,not_true_eq_false,not_false_eq_true,decide_true,decide_false,Bool.false_eq_true,List.all_cons,List.all_nil,Bool.and_true]<;>rfl)
structure eS3 {α:Type} (a b:α):Prop where
 h:a=b:=by (simp only [eL,dM,gN,dA,bO,bS,iS,nF,dP,G.idl,G.idls,cA,List.nil_append,List.append_nil,List.cons_append,aF,aI,Nat.reduceEqDiff,reduceIte,List.mem_cons,List.not_mem_nil,or_false,or_true,true_or,false_or,List.filter_cons,List.filter_nil,ne_eq,not_true_eq_false,not_false_eq_true,decide_true,decide_false,Bool.false_eq_true,List.all_cons,List.all_nil,Bool.and_true]<;>rfl)
structure eS4 {α:Type} (a b:α):Prop where
 h:a=b:=by (simp only [oJ,gev,aT,Nat.reduceEqDiff,reduceIte,List.map_cons,List.map_nil,List.cons_append,List.nil_append,List.append_nil,toP,iC,fV,ofV,rhp,aF,aI,List.mem_cons,List.not_mem_nil,or_false,and_true,true_and]<;>rfl)
structure eS5 {α:Type} (a b:α):Prop where
 h:a=b:=by (simp only [cvS,iG,toP,iC,fV,aT,eZ,aF,aI,Nat.reduceEqDiff,reduceIte,List.take_succ_cons,List.take_zero,List.drop_succ_cons,List.drop_zero,List.take_nil,List.drop_nil,List.length_cons,List.length_nil,Nat.reduceAdd,Nat.add_zero,Nat.zero_add,List.map_cons,List.map_nil,List.cons_append,List.nil_append,List.append_nil,and_true,true_and]<;>rfl)
variable {E:Env Tryz.prog} {C:Cx E} {r:Option Nat} {ops:Array Oper} {Q:GE→Sg E→Prop} {rest lst:List Oper} {l l':List (Nat×G)} {m:List (Nat×Ob)} {A:E.α} {df:List GD}
variable {t:Nat} {op:Op} {ty:TypeId} {pos:String} {af:Array Edge} {c:Prop} {g:G} {ob:Ob} {i j:Nat} {gd:Option (Nat×Bool)} {b x:Bool} {cd:Code} {J:List Nat}
theorem aPG (n:Nat) (tab:List Nat) (id:Nat) (cs:List P) {cl:Call} {x y:Operand} {l1:List (Nat×G)} {m1:List (Nat×Ob)} (ho:ops[n]? = some ⟨some t,.call cl,ty,pos,af,none⟩:=by rfl) (hwt:oD tab ops.toList 0=true:=by kernel_rfl) (hct:aFd tab n 1 ops.size=true:=by kernel_rfl) (hx:cl.callee = .value x:=by rfl) (hy:gev (bA l) x = .abs:=by (simp only [gev,aT,Nat.reduceEqDiff,reduceIte]<;>rfl)) (hcl:cl.args.toList=[y]:=by rfl) (hgs:gev (bA l) y = .ref id 0:=by (simp only [gev,aT,Nat.reduceEqDiff,reduceIte]<;>rfl))
  (hob:aG m id = .cells (cs.map .p) 0:=by (simp only [aF,Nat.reduceEqDiff,reduceIte]<;>rfl)) (hid:C.lim≤id:=by omega) (hn1:id∉bO m (m.map (·.1)):=by (simp [bO,dA,G.idl,G.idls,aF,aI])) (hn2:id∉dM df:=by (simp [dM,gN,G.idl,G.idls])) (hl1:aEc id l=l1:=by exact eS1.h {}) (hm1:tL id m=m1:=by (simp only [tL,Nat.reduceBEq,cond_true,cond_false]<;>rfl)) (hcan:E.Can A [.o cs]) (ht:t<C.N:=by omega)
  (k:∀b A',E.Y A [.o cs] (.b b) A'→qB C r ops (cE C Q) (n+1) (sg ((t,.p (.bool b))::l1) m1 A' df)) (kp:∀p A',E.Y A [.o cs] (.p p) A'→Q (.panic p) (sg l1 m1 A' df)):qB C r ops (cE C Q) n (sg l m A df):=
 aLb tab ho hwt hct fun K hK=>aDf hx (bN rfl) hy hcl hgs hob hid hn1 hn2 hl1 hm1 hcan ht (fun b A' h=>hK _ (k b A' h)) kp
theorem xcl {e:Bool} (vs:List Nat) {m':List (Nat×Ob)} {I:List Nat} (k:qX e C r cd Q (sg l' m' A df)) (hl:(vs.map fun v=>(v,bA l v))=l':=by (simp only [List.map_cons,List.map_nil,aT,eZ,Nat.reduceEqDiff,reduceIte]<;>rfl)) (hI:zQ l' m df=I:=by exact eS2.h {}) (hm:bS I m=m':=by exact eS3.h {}) (h1:dP (eL l') I=true:=by exact eS3.h {}) (h2:dP (dM df) I=true:=by exact eS3.h {}) (h3:dP (bO m I) I=true:=by exact eS3.h {}):qX e C r cd Q (sg l m A df):=aK8 (nO vs hl hm h1 h2 h3) k
theorem rfY {Z:Type} {e:Bool} {ps:Array Nat} {o:Operand} {assign body:Code} {f:FuncId} {ga gb aa ab:List G} {ca cb:Prop} (lim d:Nat) (psl:List Nat) {xs:List (List Y0)} {tail:Option P} {pan:Bool} (I:Nat→Z→E.α→Prop) (mI:Z→List (Nat×Ob)) (K:GE→Z→E.α→Prop) (mK:GE→Z→List (Nat×Ob)) (KP:P→Z→E.α→Prop) (mP:P→Z→List (Nat×Ob)) (ka kb:List Sp)
  (it:aA7 Tryz.prog f (aa++(.abs::ab)) xs tail pan) (hent:aJ Tryz.prog f) (hg:oJ (bA l) o=some (f,ga,gb):=by exact eS4.h {}) (hca:iG (aG m) ka ga=some (ca,aa):=by exact eS5.h {}) (hcb:iG (aG m) kb gb=some (cb,ab):=by exact eS5.h {}) (hia:imm.imms aa=true:=by simp [imm,imm.imms]) (hib:imm.imms ab=true:=by simp [imm,imm.imms]) (h1:ca:=by simp [bB,G.one,P.one]) (h2:cb:=by simp [bB,G.one,P.one])
  (hps:ps.toList=psl:=by rfl) (hlim:C.lim≤lim:=by omega) (hlim2:lim≤90000:=by omega) (hpn:∀p∈psl,p<C.N:=by (simp<;>omega)) (hlen:∀x∈xs,x.length=psl.length) (hd:C.lim≤d:=by omega)
  (wI:∀k z A,I k z A→wU l df lim d (mI z):=by (intro k z A hI;first|exact hI.elim|(constructor<;>simp [zS,eL,dM,gN,G.idl,G.idls,zR,aF,aI]))) (wK:∀e z A,K e z A→wU l df lim d (mK e z):=by (intro k z A hI;first|exact hI.elim|(constructor<;>simp [zS,eL,dM,gN,G.idl,G.idls,zR,aF,aI])))
  (hshp:∀x∈xs,(∃ys:List P,x=ys.map Y0.p)∨∃cs,x=[.o cs]) (wP:∀p z A,KP p z A→pan=true∧wU l df lim d (mP p z):=by (intro k z A hI;first|exact hI.elim|(refine ⟨rfl,?_⟩;constructor<;>simp [zS,eL,dM,gN,G.idl,G.idls,zR,aF,aI]))) (h0:∃z,I 0 z A∧mI z=m)
  (round:∀k z A' x,I k z A'→xs[k]? = some x→∀(lp:Nat) (bs:List (Nat×Obj)) (C1:Cx (E.guard bs)),C1.N=C.N→C1.lim=lim →
   gwp C1 (some lp) assign (fun e σ=>e = .normal∧∀(bs:List (Nat×Obj)) (C2:Cx (E.guard bs)),C2.N=C.N→C2.lim=lim→(∃r0,(lp,Obj.loop r0)∈bs)→gwp C2 (some lp) body (fun e σ=>match e with
    |.normal=>∃σ3 z,Le C2 σ σ3∧σ3.h=aG (mI z)∧I (k+1) z σ3.A
    |.panic p=>σ.df=[]∧∃z,Sub (aG (mP p z)) σ.h∧KP p z σ.A
    |e=>∃σ3 z,Le C2 σ σ3∧σ3.h=aG (mK e z)∧K e z σ3.A) ⟨σ.fr,σ.h,σ.A,σ.df⟩) ⟨aAg (bA l) psl x,qG (aG (mI z)) x,A',[]⟩)
  (hK:∀e z A',K e z A'→Q e (sg l ((d,.mark)::mK e z) A' (.mark d::df))) (hP:∀p z A',KP p z A'→Q (.panic p) (sg l ((d,.mark)::mP p z) A' (.mark d::df))) (hT:∀p z A',tail=some p→I xs.length z A'→Q (.panic p) (sg l ((d,.mark)::mI z) A' (.mark d::df))) (hI:∀z A',tail=none→I xs.length z A'→Q .normal (sg l ((d,.mark)::mI z) A' (.mark d::df)))
  (he:pan=true→e=true:=by simp):qX e C none (.rangeFunc o ps assign body) Q (sg l m A df):=
 aHs lim d psl xs tail pan I mI K mK KP mP ka kb it hent hg hca hcb hia hib h1 h2 hps hlim hlim2 hpn hlen hd wI wK hshp wP h0 round hK hP hT hI he
theorem rfH {Z:Type} {e:Bool} {ps:Array Nat} {o:Operand} {assign body:Code} {f:FuncId} {ga gb:List G} {l1:List (Nat×G)} {m1:List (Nat×Ob)} (lim d id:Nat) (psl:List Nat) {xs:List (List Y0)} {tail:Option P} {pan:Bool} (I:Nat→Z→E.α→Prop) (mI:Z→List (Nat×Ob)) (K:GE→Z→E.α→Prop) (mK:GE→Z→List (Nat×Ob)) (KP:P→Z→E.α→Prop) (mP:P→Z→List (Nat×Ob)) (cs:List P)
  (it:aCq Tryz.prog f [.abs,.ref 0 0] (aG [(0,.cells (cs.map .p) 0)]) xs tail pan) (hent:aJ Tryz.prog f) (hg:oJ (bA l) o=some (f,ga,gb):=by exact eS4.h {}) (hgb:ga=[]∧gb=[.ref id 0]:=by exact ⟨rfl,rfl⟩) (hob:aG m id = .cells (cs.map .p) 0:=by (simp only [aF,Nat.reduceEqDiff,reduceIte]<;>rfl)) (hn1:id∉bO m (m.map (·.1)):=by (simp [bO,dA,G.idl,G.idls,aF,aI])) (hn2:id∉dM df:=by (simp [dM,gN,G.idl,G.idls])) (hl1:aEc id l=l1:=by exact eS1.h {}) (hm1:tL id m=m1:=by (simp only [tL,Nat.reduceBEq,cond_true,cond_false]<;>rfl))
  (hps:ps.toList=psl:=by rfl) (hlim:C.lim≤lim:=by omega) (hlim2:lim≤90000:=by omega) (hpn:∀p∈psl,p<C.N:=by (simp<;>omega)) (hlen:∀x∈xs,x.length=psl.length) (hd:C.lim≤d:=by omega)
  (wI:∀k z A,I k z A→wU l1 df lim d (mI z):=by (intro k z A hI;first|exact hI.elim|(constructor<;>simp [zS,eL,dM,gN,G.idl,G.idls,zR,aF,aI]))) (wK:∀e z A,K e z A→wU l1 df lim d (mK e z):=by (intro k z A hI;first|exact hI.elim|(constructor<;>simp [zS,eL,dM,gN,G.idl,G.idls,zR,aF,aI])))
  (hshp:∀x∈xs,(∃ys:List P,x=ys.map Y0.p)∨∃cs,x=[.o cs]) (wP:∀p z A,KP p z A→pan=true∧wU l1 df lim d (mP p z):=by (intro k z A hI;first|exact hI.elim|(refine ⟨rfl,?_⟩;constructor<;>simp [zS,eL,dM,gN,G.idl,G.idls,zR,aF,aI]))) (h0:∃z,I 0 z A∧mI z=m1)
  (round:∀k z A' x,I k z A'→xs[k]? = some x→∀(lp:Nat) (bs:List (Nat×Obj)) (C1:Cx (E.guard bs)),C1.N=C.N→C1.lim=lim →
   gwp C1 (some lp) assign (fun e σ=>e = .normal∧∀(bs:List (Nat×Obj)) (C2:Cx (E.guard bs)),C2.N=C.N→C2.lim=lim→(∃r0,(lp,Obj.loop r0)∈bs)→gwp C2 (some lp) body (fun e σ=>match e with
    |.normal=>∃σ3 z,Le C2 σ σ3∧σ3.h=aG (mI z)∧I (k+1) z σ3.A
    |.panic p=>σ.df=[]∧∃z,Sub (aG (mP p z)) σ.h∧KP p z σ.A
    |e=>∃σ3 z,Le C2 σ σ3∧σ3.h=aG (mK e z)∧K e z σ3.A) ⟨σ.fr,σ.h,σ.A,σ.df⟩) ⟨aAg (bA l1) psl x,qG (aG (mI z)) x,A',[]⟩)
  (hK:∀e z A',K e z A'→Q e (sg l1 ((d,.mark)::mK e z) A' (.mark d::df))) (hP:∀p z A',KP p z A'→Q (.panic p) (sg l1 ((d,.mark)::mP p z) A' (.mark d::df))) (hT:∀p z A',tail=some p→I xs.length z A'→Q (.panic p) (sg l1 ((d,.mark)::mI z) A' (.mark d::df))) (hI:∀z A',tail=none→I xs.length z A'→Q .normal (sg l1 ((d,.mark)::mI z) A' (.mark d::df)))
  (he:pan=true→e=true:=by simp):qX e C none (.rangeFunc o ps assign body) Q (sg l m A df):=
 aHv lim d id psl xs tail pan I mI K mK KP mP it hent hg hgb hob hn1 hn2 hl1 hm1 hps hlim hlim2 hpn hlen hd wI wK hshp wP h0 round hK hP hT hI he
end
section
open Go.Gh
structure aNz (c:Prop):Prop where
 h:c:=by (first|exact True.intro|omega|(simp only [inI];omega)|(simp [P.size,bU,bG,bR,bB,cS,good,G.one,P.one,P.cells]<;>first|omega|assumption|simp_all))
def hU (ln:Str):List Str:=dF 32 (Lib.trimSuffix ln [10])
abbrev pls (s:Str):List (List Y0):=(bT s).map fun ln=>[Y0.o [bW (hU ln)]]
theorem oP:∀(s:Str),∀l∈bT s,l.length≤s.length
 |[],l,h=>by simp [bT] at h
 |b::s,l,h=>by
  rw [bT] at h
  split at h
  ·rcases List.mem_cons.1 h with rfl|h
   ·simp
   have:=oP s l h;rw [List.length_cons];omega
  cases e:bT s with
  |nil=>rw [e] at h;simp only [List.mem_singleton] at h;subst h;simp
  |cons p ps=>
   rw [e] at h
   rcases List.mem_cons.1 h with rfl|h
   ·have:=oP s p (by rw [e];exact List.mem_cons_self ..);simp only [List.length_cons];omega
   have:=oP s l (by rw [e];exact List.mem_cons_of_mem _ h);rw [List.length_cons];omega
theorem aBm (s p:Str):(Lib.trimSuffix s p).length≤s.length:=by
 unfold Lib.trimSuffix
 split
 ·rw [List.length_take];omega
 exact Nat.le_refl _
theorem aFG {s ln:Str} {k:Nat} (h:(bT s)[k]? = some ln):(pls s)[k]? = some [Y0.o [bW (hU ln)]]:=by rw [pls,List.getElem?_map,h];rfl
theorem aLF {s:Str} {k:Nat} {x:List Y0} (h:(yls s)[k]? = some x):∃ln,(bT s)[k]? = some ln∧x=[Y0.p (.str ln)]:=by
 rw [yls,List.getElem?_map] at h
 cases e:(bT s)[k]? with
 |none=>rw [e] at h;cases h
 |some ln=>rw [e] at h;cases h;exact ⟨ln,rfl,rfl⟩
theorem aOZ:aJ Tryz.prog 93:=aJ.mk Tryz.func93 (by kernel_rfl) rfl
theorem aJJ:aJ Tryz.prog 145:=aJ.mk Tryz.func145 (by kernel_rfl) rfl
theorem aNA:aJ Tryz.prog 147:=aJ.mk Tryz.func147 (by kernel_rfl) rfl
theorem yR:aJ Tryz.prog 144:=aJ.mk Tryz.func144 (by kernel_rfl) rfl
theorem aDp (s:Str) (h:s.length≤100000) (hs:Lib.hasSuffix s [10]=true) :
  aA7 Tryz.prog 144 [.abs,.ptr [.p (.str s)]] (pls s) none true:=by
 intro E J Z ZP hcan hy A hA
 refine hE Tryz.func144 (rfl:Tryz.f144.body=some _) (Nat.le_of_ble_eq_true rfl) (fun id h=>?_) (fun j id h=>?_) ?_
 ·exact kA h
 ·exact kB h
 intro C hN hL
 replace hN:C.N=18:=hN
 simp only [Gh.num,List.map_cons,List.map_nil,Nat.reduceAdd]
 repeat apply aV
 refine bK ?_
 apply aB
 refine n1 120 false (hc:=aNz.h {}) ?_
 apply aC
 refine xcl [1,2] ?_
 repeat apply aV
 refine bK ?_
 apply aB
 refine v0 ?_
 refine pc0 (spec:=zU s [10] (by omega)) (hent:=aJJ) ?_
 refine rb 5 true (h:=by (exact hs)) ?_
 refine pc0 (spec:=bH _) (hent:=bX) ?_
 apply aC
 refine xcl [1,2] ?_
 repeat apply aV
 refine bK ?_
 apply aB
 refine v0 ?_
 refine oc0 [(110,2000)] [] [0] none (spec:=aLE s) (hent:=aNy) ?_
 apply aC
 refine xcl [2,8] ?_
 repeat apply aV
 refine iU ?_
 repeat apply aV
 refine rfH 10000 99001 2000 [9] (fun k (_:Unit) A1=>J k A1) (fun _=>[(120,.cells [.abs] 0)]) (fun e (_:Unit) A1=>e = .ret∧Z A1) (fun _ _=>[(120,.cells [.abs] 0)]) (fun p (_:Unit) A1=>ZP p A1) (fun _ _=>[(120,.cells [.abs] 0)]) [P.str s] (it:=aJI s h true) (hent:=aNx) (hlen:=fun x hx=>by obtain ⟨w,_,rfl⟩:=List.mem_map.1 hx;rfl) (hshp:=fun x hx=>by obtain ⟨w,_,rfl⟩:=List.mem_map.1 hx;exact .inl ⟨[.str w],rfl⟩) (h0:=?_) (round:=fun k z A1 x hI hx lp bs C1 hN1 hL1=>?_) (hK:=fun e z A1 hK=>?_) (hP:=fun p z A1 hP=>?_) (hT:=fun p z A1 ht hT=>?_) (hI:=fun z A1 ht hI=>?_)
 ·exact ⟨(),hA,rfl⟩
 ·obtain ⟨ln,hln,rfl⟩:=aLF hx
  have hll:ln.length≤100000:=by have:=oP s ln (List.mem_of_getElem? hln);omega
  have htl:=aBm ln [10]
  replace hN1:C1.N=18:=hN1.trans hN
  refine (?_:gwp C1 (some lp) _ _ (sg ((9,.p (.str ln))::_) [(120,.cells [.abs] 0)] A1 []))
  repeat apply aA
  apply aB
  refine v0 ?_
  apply aC
  refine ⟨rfl,fun bs2 C2 hN2 hL2 hr2=>?_⟩
  replace hN2:C2.N=18:=hN2.trans hN
  refine (?_:gwp C2 (some lp) _ _ (sg _ _ _ []))
  repeat apply aA
  refine aP ?_
  repeat apply aA
  refine rd ?_
  refine d0 0 ?_
  refine d0 1 ?_
  refine oY 2 (spec:=aDh ln [10] (by omega)) (hent:=aOZ) ?_
  refine oY 3 (spec:=aLx (Lib.trimSuffix ln [10]) 32 (by omega)) (hent:=aNA) ?_
  refine d0 4 ?_
  refine dn1 5 10250 false (hc:=aNz.h {}) ?_
  refine dz 6 [0,0,2,6,14,30,63,127] ?_
  refine aPG 6 [0,0,2,6,14,30,63,127] 10250 [bW (hU ln)] (hcan:=?_) (k:=fun b A3 hY=>?_) (kp:=fun p A3 hY=>?_)
  ·exact hcan _ _ _ hI (aFG hln)
  ·have hy2:=hy _ _ _ _ _ hI (aFG hln) hY
   refine dst ?_
   refine d0 0 ?_
   refine dz 1 [0,0,2,6,14,30,63,127] ?_
   refine de 8 ?_
   repeat apply aA
   refine cB (k1:=fun hb1=>?_) (k0:=fun hb1=>?_)
   ·replace hb1:=hB.h {} hb1
    repeat apply aA
    refine aL ?_
    repeat (first|refine aH ?_|refine aE ?_|refine aD ?_)
    obtain rfl:b=false:=by simp_all
    exact ⟨sg [] [(120,.cells [.abs] 0)] A3 [],(),lc [120],rfl,rfl,hy2⟩
   replace hb1:=hB.h {} hb1
   repeat apply aA
   refine aQ ?_
   repeat refine bZ ?_
   obtain rfl:b=true:=by simp_all
   exact ⟨sg [] [(120,.cells [.abs] 0)] A3 [],(),lc [120],rfl,hy2⟩
  have hy2:=hy _ _ _ _ _ hI (aFG hln) hY
  repeat (first|refine aO ?_|refine aN ?_)
  exact ⟨rfl,(),⟨fun _=>.inl rfl,fun j id hm=>by simp only [aF,aI] at hm;split at hm<;>simp [Ob.men,G.mens,G.men] at hm⟩,hy2.2⟩
 ·obtain ⟨rfl,hz⟩:=hK
  repeat (first|refine aH ?_|refine aE ?_)
  refine tK ?_
  try refine om (h3:=by simp [bO,dA,G.idl,G.idls,cA,aF,aI]) ?_
  refine cM ?_
  refine fp0 ?_
  exact .inl ⟨_,_,_,rfl,.inr hz⟩
 ·repeat (first|refine aO ?_|refine aN ?_)
  refine bM ?_
  try refine om (h3:=by simp [bO,dA,G.idl,G.idls,cA,aF,aI]) ?_
  refine aCn ?_
  exact .inr ⟨_,_,_,rfl,.inr hP⟩
 ·cases ht
 try refine bP ?_
 refine aD8 ?_
 try refine om (h3:=by simp [bO,dA,G.idl,G.idls,cA,aF,aI]) ?_
 refine cM ?_
 refine fp0 ?_
 exact .inl ⟨_,_,_,rfl,.inl ⟨trivial,by simpa [pls,yls] using hI⟩⟩
theorem yS (s:Str) (h:s.length≤100000) (hs:Lib.hasSuffix s [10]=false) :
  aA7 Tryz.prog 144 [.abs,.ptr [.p (.str s)]] [] (some (.iface 218 (.agg [.int .i64 8]))) true:=by
 intro E J Z ZP hcan hy A hA
 refine hE Tryz.func144 (rfl:Tryz.f144.body=some _) (Nat.le_of_ble_eq_true rfl) (fun id h=>?_) (fun j id h=>?_) ?_
 ·exact kA h
 ·exact kB h
 intro C hN hL
 replace hN:C.N=18:=hN
 simp only [Gh.num,List.map_cons,List.map_nil,Nat.reduceAdd]
 repeat apply aV
 refine bK ?_
 apply aB
 refine n1 120 false (hc:=aNz.h {}) ?_
 apply aC
 refine xcl [1,2] ?_
 repeat apply aV
 refine bK ?_
 apply aB
 refine v0 ?_
 refine pc0 (spec:=zU s [10] (by omega)) (hent:=aJJ) ?_
 refine rb 5 false (h:=by (exact hs)) ?_
 refine pp0 (spec:=cX _) (hent:=bX) ?_
 repeat (first|refine aO ?_|refine aN ?_)
 refine bM ?_
 refine aCn ?_
 exact .inr ⟨_,_,_,rfl,.inl ⟨rfl,hA⟩⟩
end
section
open Go.Gh
variable {E:Env Tryz.prog} {A:E.α}
structure aEx (c:Prop):Prop where
 h:c:=by (first|exact True.intro|omega|(simp only [inI];omega)|(simp [P.size,bU,bG,bR,bB,cS,good,G.one,P.one,P.cells]<;>first|omega|assumption|simp_all))
structure aO0 (c:Prop):Prop where
 h:c:=by (first|exact True.intro|omega|(simp [P.size]<;>first|omega|(intro x a b _ h;subst h;rfl)|(intro x a b d _ h;subst h;rfl)|(intro a _;rfl))|(simp [P.size];exact ⟨by omega,fun a _=>rfl⟩)|omega|(simp only [inI];omega)|(simp [P.size,bU,bG,bR,bB,cS,good,G.one,P.one,P.cells]<;>first|omega|assumption|simp_all))
def lE {α:Type} (q:α→Bool):List α→Nat→Int
 |[],_=>-1
 |z::zs,k=>if q z then k else lE q zs (k+1)
theorem fC {α:Type} {q:α→Bool} {l:List α} {k:Nat} {x:α} (h:l[k]? = some x):lE q (l.drop k) k=if q x then (k:Int) else lE q (l.drop (k+1)) (k+1):=by
 obtain ⟨hk,e⟩:=List.getElem?_eq_some_iff.1 h
 rw [List.drop_eq_getElem_cons hk,e];rfl
theorem aBn {α:Type} (q:α→Bool):∀(l:List α) (k:Nat),0≤lE q l k↔l.any q=true
 |[],k=>by simp [lE]
 |z::zs,k=>by
  simp only [lE,List.any_cons]
  by_cases h:q z=true
  ·rw [if_pos h,h];simp
  rw [if_neg h,aBn q zs (k+1),show q z=false by simpa using h,Bool.false_or]
theorem nQ {α:Type} (q:α→Bool) (l:List α) (k:Nat):decide (0≤lE q l k)=l.any q:=by
 by_cases h:0≤lE q l k
 ·rw [decide_eq_true h,(aBn q l k).1 h]
 rw [decide_eq_false h]
 cases e:l.any q with
 |false=>rfl
 |true=>exact absurd ((aBn q l k).2 e) h
theorem aO1:Tryz.prog.underlying 24=some (.struct #[⟨"Lo",3,0,false,"","",0⟩,⟨"Hi",3,1,false,"","",8⟩]):=by kernel_rfl
theorem aPH:Tryz.prog.underlying 3=some (.int .i64):=by kernel_rfl
theorem qK (d:Nat) (a c:Int):geq Tryz.prog (d+1) 3 (.int .i64 a) (.int .i64 c)=some (decide (a=c)):=by
 unfold geq
 rw [aPH]
 rfl
theorem qL (d:Nat) (a b c e:Int):geq Tryz.prog (d+2) 24 (.agg [.int .i64 a,.int .i64 b]) (.agg [.int .i64 c,.int .i64 e])=some (decide (a=c)&&(decide (b=e)&&true)):=by
 unfold geq
 rw [aO1]
 have hs:Tryz.prog.stoodInHeld 24=false:=by kernel_rfl
 have p0:∀u v:Int,dE Tryz.prog 3 [.int .i64 u,.int .i64 v] 0=some (.int .i64 u):=fun u v=>by unfold dE;rw [oX];rfl
 have p1:∀u v:Int,dE Tryz.prog 3 [.int .i64 u,.int .i64 v] 1=some (.int .i64 v):=fun u v=>by unfold dE;rw [oX];rfl
 simp only [hs,Bool.false_eq_true,if_false,List.map_cons,List.map_nil,p0,p1,qK]
 rfl
def spB (lo hi:Int) (s:Int×Int):Bool:=decide (lo≤s.1)&&decide (s.1≤s.2)&&decide (s.2≤hi)
def kH (s:Int×Int):Bool:=decide (s.1=0)&&decide (s.2=0)
def jX (s:nB):Bool:=(s.kn&&spB (-1048576) 1048576 s.e&&spB (-1048576) 1048576 s.n) || (!s.kn&&kH s.e&&kH s.n)
def fD (s:nB):Bool:=!(spB 0 32768 s.x) || !(spB 0 32768 s.y) || !jX s
def Plt.valid (p:Plt):Bool:=spB 1 1000 p.sc&&decide ((p.st.length:Int)≤10) && !p.st.any fD
theorem pT:aJ Tryz.prog 149:=aJ.mk Tryz.func149 (by kernel_rfl) rfl
theorem kV (s:Int×Int):bF Tryz.prog 149 [pSp s] (.ok (.bool (spB 0 32768 s))):=by
 refine bL Tryz.func149 (rfl:Tryz.f149.body=some _) rfl ?_
 intro E A C hN hL
 replace hN:C.N=5:=hN
 simp only [Gh.num,List.map_cons,List.map_nil,Nat.reduceAdd]
 have hpsp:∀s:Int×Int,pSp s = .agg [.int .i64 s.1,.int .i64 s.2]:=fun _=>rfl
 repeat apply aA
 apply aB
 refine n1 110 false (hc:=aEx.h {}) ?_
 refine v0 ?_
 apply aC
 refine cl [1] ?_
 repeat apply aA
 apply aB
 refine v0 ?_
 refine pc0 (spec:=lC s.1 s.2 (0) (32768)) (hent:=tQ) ?_
 refine v0 ?_
 apply aC
 repeat apply aA
 refine aL ?_
 repeat (first|refine aH ?_|refine aE ?_|refine aD ?_)
 refine aM ?_
 refine fp ?_
 rfl
theorem aJK:aJ Tryz.prog 150:=aJ.mk Tryz.func150 (by kernel_rfl) rfl
theorem aMd (s:Int×Int):bF Tryz.prog 150 [pSp s] (.ok (.bool (spB (-1048576) 1048576 s))):=by
 refine bL Tryz.func150 (rfl:Tryz.f150.body=some _) rfl ?_
 intro E A C hN hL
 replace hN:C.N=5:=hN
 simp only [Gh.num,List.map_cons,List.map_nil,Nat.reduceAdd]
 have hpsp:∀s:Int×Int,pSp s = .agg [.int .i64 s.1,.int .i64 s.2]:=fun _=>rfl
 repeat apply aA
 apply aB
 refine n1 110 false (hc:=aEx.h {}) ?_
 refine v0 ?_
 apply aC
 refine cl [1] ?_
 repeat apply aA
 apply aB
 refine v0 ?_
 refine pc0 (spec:=lC s.1 s.2 (-1048576) (1048576)) (hent:=tQ) ?_
 refine v0 ?_
 apply aC
 repeat apply aA
 refine aL ?_
 repeat (first|refine aH ?_|refine aE ?_|refine aD ?_)
 refine aM ?_
 refine fp ?_
 rfl
theorem aNB:aJ Tryz.prog 151:=aJ.mk Tryz.func151 (by kernel_rfl) rfl
theorem aLG (s:nB):Gh.bD E 151 [.p (eE s),.ptr [.p (.fn (.func 150) [] [])],.ptr [.p (.fn (.func 149) [] [])]] (aG []) A (fun y=>y = .ok (.p (.bool (fD s))) (aG []) A):=by
 refine spX 53 Tryz.func151 rfl ?_
 intro C hN hL
 simp only [Gh.num,List.map_cons,List.map_nil,Nat.reduceAdd]
 have hps:∀s:nB,eE s = .agg [.int .i64 s.x.1,.int .i64 s.x.2,.int .i64 s.y.1,.int .i64 s.y.2,.bool s.kn,.int .i64 s.e.1,.int .i64 s.e.2,.int .i64 s.n.1,.int .i64 s.n.2]:=fun _=>rfl
 have hpsp:∀s:Int×Int,pSp s = .agg [.int .i64 s.1,.int .i64 s.2]:=fun _=>rfl
 have hgs:=qL
 obtain ⟨x,y,kn,e,n⟩:=s
 repeat apply aA
 apply aB
 refine n1 130 false (hc:=aEx.h {}) ?_
 refine v0 ?_
 apply aC
 refine cl [1,2,3] ?_
 repeat apply aA
 cases kn
 ·repeat apply aA
  apply aB
  iterate 2 refine v0 ?_
  refine rb 7 false (h:=by (rfl)) ?_
  refine v0 ?_
  iterate 4 refine x0 ?_
  iterate 2 refine v0 ?_
  iterate 4 refine x0 ?_
  iterate 2 refine v0 ?_
  iterate 2 refine w0 ?_
  refine rb 22 false (h:=by (rfl)) ?_
  iterate 8 refine w0 ?_
  refine b0 (k1:=fun hb1=>?_) (k0:=fun hb1=>?_)
  ·replace hb1:=hB.h {} hb1
   iterate 5 refine w0 ?_
   iterate 2 refine v0 ?_
   apply aC
   refine cl [2,3,5] ?_
   repeat apply aA
   apply aB
   iterate 3 refine v0 ?_
   refine pc0 (spec:=kV x) (hent:=pT) ?_
   iterate 2 refine v0 ?_
   refine b0 (k1:=fun hb2=>?_) (k0:=fun hb2=>?_)
   ·replace hb2:=hB.h {} hb2
    iterate 5 refine x0 ?_
    iterate 2 refine v0 ?_
    iterate 2 refine x0 ?_
    iterate 2 refine v0 ?_
    apply aC
    repeat apply aA
    refine aL ?_
    repeat (first|refine aH ?_|refine aE ?_|refine aD ?_)
    refine aM ?_
    refine fp ?_
    simp only [fD,jX,kH] at *
    simp_all
   replace hb2:=hB.h {} hb2
   iterate 3 refine w0 ?_
   refine pcw (spec:=kV y) (hent:=pT) ?_
   refine w0 ?_
   iterate 2 refine v0 ?_
   refine b0 (k1:=fun hb3=>?_) (k0:=fun hb3=>?_)
   ·replace hb3:=hB.h {} hb3
    iterate 2 refine x0 ?_
    iterate 2 refine v0 ?_
    apply aC
    repeat apply aA
    refine aL ?_
    repeat (first|refine aH ?_|refine aE ?_|refine aD ?_)
    refine aM ?_
    refine fp ?_
    simp only [fD,jX,kH] at *
    simp_all
   replace hb3:=hB.h {} hb3
   iterate 2 refine w0 ?_
   iterate 2 refine v0 ?_
   apply aC
   repeat apply aA
   refine aL ?_
   repeat (first|refine aH ?_|refine aE ?_|refine aD ?_)
   refine aM ?_
   refine fp ?_
   simp only [fD,jX,kH] at *
   simp_all
  replace hb1:=hB.h {} hb1
  iterate 4 refine x0 ?_
  refine w0 ?_
  iterate 2 refine v0 ?_
  apply aC
  refine cl [2,3,5] ?_
  repeat apply aA
  apply aB
  iterate 3 refine v0 ?_
  refine pc0 (spec:=kV x) (hent:=pT) ?_
  iterate 2 refine v0 ?_
  refine b0 (k1:=fun hb4=>?_) (k0:=fun hb4=>?_)
  ·replace hb4:=hB.h {} hb4
   iterate 5 refine x0 ?_
   iterate 2 refine v0 ?_
   iterate 2 refine x0 ?_
   iterate 2 refine v0 ?_
   apply aC
   repeat apply aA
   refine aL ?_
   repeat (first|refine aH ?_|refine aE ?_|refine aD ?_)
   refine aM ?_
   refine fp ?_
   simp only [fD,jX,kH] at *
   simp_all
  replace hb4:=hB.h {} hb4
  iterate 3 refine w0 ?_
  refine pcw (spec:=kV y) (hent:=pT) ?_
  refine w0 ?_
  iterate 2 refine v0 ?_
  refine b0 (k1:=fun hb5=>?_) (k0:=fun hb5=>?_)
  ·replace hb5:=hB.h {} hb5
   iterate 2 refine x0 ?_
   iterate 2 refine v0 ?_
   apply aC
   repeat apply aA
   refine aL ?_
   repeat (first|refine aH ?_|refine aE ?_|refine aD ?_)
   refine aM ?_
   refine fp ?_
   simp only [fD,jX,kH] at *
   simp_all
  replace hb5:=hB.h {} hb5
  iterate 2 refine w0 ?_
  iterate 2 refine v0 ?_
  apply aC
  repeat apply aA
  refine aL ?_
  repeat (first|refine aH ?_|refine aE ?_|refine aD ?_)
  refine aM ?_
  refine fp ?_
  simp only [fD,jX,kH] at *
  simp_all
 repeat apply aA
 apply aB
 iterate 2 refine v0 ?_
 refine rb 7 true (h:=by (rfl)) ?_
 refine v0 ?_
 iterate 3 refine w0 ?_
 refine pcw (spec:=aMd e) (hent:=aJK) ?_
 iterate 2 refine v0 ?_
 refine b0 (k1:=fun hb6=>?_) (k0:=fun hb6=>?_)
 ·replace hb6:=hB.h {} hb6
  iterate 3 refine w0 ?_
  refine pcw (spec:=aMd n) (hent:=aJK) ?_
  iterate 2 refine v0 ?_
  refine b0 (k1:=fun hb7=>?_) (k0:=fun hb7=>?_)
  ·replace hb7:=hB.h {} hb7
   iterate 4 refine x0 ?_
   iterate 4 refine x1 ?_
   iterate 2 refine x0 ?_
   iterate 4 refine x1 ?_
   refine x0 ?_
   iterate 2 refine v0 ?_
   apply aC
   refine cl [2,3,5] ?_
   repeat apply aA
   apply aB
   iterate 3 refine v0 ?_
   refine pc0 (spec:=kV x) (hent:=pT) ?_
   iterate 2 refine v0 ?_
   refine b0 (k1:=fun hb8=>?_) (k0:=fun hb8=>?_)
   ·replace hb8:=hB.h {} hb8
    iterate 5 refine x0 ?_
    iterate 2 refine v0 ?_
    iterate 2 refine x0 ?_
    iterate 2 refine v0 ?_
    apply aC
    repeat apply aA
    refine aL ?_
    repeat (first|refine aH ?_|refine aE ?_|refine aD ?_)
    refine aM ?_
    refine fp ?_
    simp only [fD,jX,kH] at *
    simp_all
   replace hb8:=hB.h {} hb8
   iterate 3 refine w0 ?_
   refine pcw (spec:=kV y) (hent:=pT) ?_
   refine w0 ?_
   iterate 2 refine v0 ?_
   refine b0 (k1:=fun hb9=>?_) (k0:=fun hb9=>?_)
   ·replace hb9:=hB.h {} hb9
    iterate 2 refine x0 ?_
    iterate 2 refine v0 ?_
    apply aC
    repeat apply aA
    refine aL ?_
    repeat (first|refine aH ?_|refine aE ?_|refine aD ?_)
    refine aM ?_
    refine fp ?_
    simp only [fD,jX,kH] at *
    simp_all
   replace hb9:=hB.h {} hb9
   iterate 2 refine w0 ?_
   iterate 2 refine v0 ?_
   apply aC
   repeat apply aA
   refine aL ?_
   repeat (first|refine aH ?_|refine aE ?_|refine aD ?_)
   refine aM ?_
   refine fp ?_
   simp only [fD,jX,kH] at *
   simp_all
  replace hb7:=hB.h {} hb7
  iterate 2 refine w0 ?_
  refine rb 22 true (h:=by (rfl)) ?_
  iterate 2 refine w0 ?_
  iterate 4 refine x0 ?_
  iterate 2 refine w0 ?_
  iterate 4 refine x0 ?_
  refine w0 ?_
  iterate 2 refine v0 ?_
  apply aC
  refine cl [2,3,5] ?_
  repeat apply aA
  apply aB
  iterate 3 refine v0 ?_
  refine pc0 (spec:=kV x) (hent:=pT) ?_
  iterate 2 refine v0 ?_
  refine b0 (k1:=fun hb10=>?_) (k0:=fun hb10=>?_)
  ·replace hb10:=hB.h {} hb10
   iterate 5 refine x0 ?_
   iterate 2 refine v0 ?_
   iterate 2 refine x0 ?_
   iterate 2 refine v0 ?_
   apply aC
   repeat apply aA
   refine aL ?_
   repeat (first|refine aH ?_|refine aE ?_|refine aD ?_)
   refine aM ?_
   refine fp ?_
   simp only [fD,jX,kH] at *
   simp_all
  replace hb10:=hB.h {} hb10
  iterate 3 refine w0 ?_
  refine pcw (spec:=kV y) (hent:=pT) ?_
  refine w0 ?_
  iterate 2 refine v0 ?_
  refine b0 (k1:=fun hb11=>?_) (k0:=fun hb11=>?_)
  ·replace hb11:=hB.h {} hb11
   iterate 2 refine x0 ?_
   iterate 2 refine v0 ?_
   apply aC
   repeat apply aA
   refine aL ?_
   repeat (first|refine aH ?_|refine aE ?_|refine aD ?_)
   refine aM ?_
   refine fp ?_
   simp only [fD,jX,kH] at *
   simp_all
  replace hb11:=hB.h {} hb11
  iterate 2 refine w0 ?_
  iterate 2 refine v0 ?_
  apply aC
  repeat apply aA
  refine aL ?_
  repeat (first|refine aH ?_|refine aE ?_|refine aD ?_)
  refine aM ?_
  refine fp ?_
  simp only [fD,jX,kH] at *
  simp_all
 replace hb6:=hB.h {} hb6
 iterate 4 refine x0 ?_
 iterate 2 refine v0 ?_
 iterate 2 refine w0 ?_
 refine rb 22 true (h:=by (rfl)) ?_
 iterate 2 refine w0 ?_
 iterate 4 refine x0 ?_
 iterate 2 refine w0 ?_
 iterate 4 refine x0 ?_
 refine w0 ?_
 iterate 2 refine v0 ?_
 apply aC
 refine cl [2,3,5] ?_
 repeat apply aA
 apply aB
 iterate 3 refine v0 ?_
 refine pc0 (spec:=kV x) (hent:=pT) ?_
 iterate 2 refine v0 ?_
 refine b0 (k1:=fun hb12=>?_) (k0:=fun hb12=>?_)
 ·replace hb12:=hB.h {} hb12
  iterate 5 refine x0 ?_
  iterate 2 refine v0 ?_
  iterate 2 refine x0 ?_
  iterate 2 refine v0 ?_
  apply aC
  repeat apply aA
  refine aL ?_
  repeat (first|refine aH ?_|refine aE ?_|refine aD ?_)
  refine aM ?_
  refine fp ?_
  simp only [fD,jX,kH] at *
  simp_all
 replace hb12:=hB.h {} hb12
 iterate 3 refine w0 ?_
 refine pcw (spec:=kV y) (hent:=pT) ?_
 refine w0 ?_
 iterate 2 refine v0 ?_
 refine b0 (k1:=fun hb13=>?_) (k0:=fun hb13=>?_)
 ·replace hb13:=hB.h {} hb13
  iterate 2 refine x0 ?_
  iterate 2 refine v0 ?_
  apply aC
  repeat apply aA
  refine aL ?_
  repeat (first|refine aH ?_|refine aE ?_|refine aD ?_)
  refine aM ?_
  refine fp ?_
  simp only [fD,jX,kH] at *
  simp_all
 replace hb13:=hB.h {} hb13
 iterate 2 refine w0 ?_
 iterate 2 refine v0 ?_
 apply aC
 repeat apply aA
 refine aL ?_
 repeat (first|refine aH ?_|refine aE ?_|refine aD ?_)
 refine aM ?_
 refine fp ?_
 simp only [fD,jX,kH] at *
 simp_all
theorem aNC:aJ Tryz.prog 171:=aJ.mk Tryz.func171 (by kernel_rfl) rfl
theorem aND (l:List (nB)) (hl:l.length≤1048576)  : Gh.bD E 171 [.p (.list (l.map eE)),.fn (.func 151) [] [.ptr [.p (.fn (.func 150) [] [])],.ptr [.p (.fn (.func 149) [] [])]]] (aG []) A (fun y=>y = .ok (.p (.int .i64 (lE fD l 0))) (aG []) A):=by
 refine spX 19 Tryz.func171 rfl ?_
 intro C hN hL
 simp only [Gh.num,List.map_cons,List.map_nil,Nat.reduceAdd]
 have hps:∀s:nB,eE s = .agg [.int .i64 s.x.1,.int .i64 s.x.2,.int .i64 s.y.1,.int .i64 s.y.2,.bool s.kn,.int .i64 s.e.1,.int .i64 s.e.2,.int .i64 s.n.1,.int .i64 s.n.2]:=fun _=>rfl
 repeat apply aA
 apply aB
 refine v0 ?_
 apply aC
 refine cl [0,1] ?_
 repeat apply aA
 apply aB
 iterate 3 refine v0 ?_
 apply aC
 refine cl [0,1,7,8] ?_
 repeat apply aA
 refine aP ?_
 repeat apply aA
 refine cJ (fun mz σ=>∃k:Nat,(k≤l.length)∧(lE fD l 0=lE fD (l.drop k) k)∧mz=l.length - k∧σ=(sg [(0,.p (.list (l.map eE))),(1,.fn (.func 151) [] [.ptr [.p (.fn (.func 150) [] [])],.ptr [.p (.fn (.func 149) [] [])]]),(7,.p (.int .i64 l.length)),(8,.p (.int .i64 k))] [] A []:Sg E)) ?_ (fun mz σ hI=>?_)
 ·refine gA [0,1,7,8] ?_
  exact ⟨_,0,by omega,by simp,rfl,rfl⟩
 obtain ⟨k,hk,hi,hn,rfl⟩:=hI
 repeat apply aA
 apply aB
 refine v0 ?_
 apply aC
 repeat apply aA
 refine cB (k1:=fun hb1=>?_) (k0:=fun hb1=>?_)
 ·replace hb1:=hB.h {} hb1
  repeat apply aA
  refine aQ ?_
  refine cl [0,1,7,8] ?_
  repeat apply aA
  refine aP ?_
  repeat apply aA
  apply aB
  iterate 2 refine v0 ?_
  apply aC
  refine cl [0,1,5,7,8] ?_
  repeat apply aA
  obtain ⟨x,hx⟩:=fT (l:=l) (k:=k) (by omega)
  apply aB
  iterate 3 refine v0 ?_
  refine v1 (hc:=aO0.h {}) ?_
  refine v0 ?_
  refine oc0 [] [] [0,0,0] none (spec:=aLG x) (hent:=aNB) ?_
  apply aC
  repeat apply aA
  refine cB (k1:=fun hb2=>?_) (k0:=fun hb2=>?_)
  ·replace hb2:=hB.h {} hb2
   repeat apply aA
   apply aB
   iterate 2 refine v0 ?_
   apply aC
   repeat apply aA
   refine aL ?_
   repeat (first|refine aH ?_|refine aE ?_|refine aD ?_)
   refine aM ?_
   refine fp ?_
   simp only [dT.at,cL.ok.injEq,G.p.injEq,P.int.injEq,true_and,and_true]
   first
   |(rw [hi,fC hx];simp_all;done)
   |(rw [hi,List.drop_eq_nil_of_le (by omega)];rfl)
  replace hb2:=hB.h {} hb2
  repeat apply aA
  refine aQ ?_
  refine cl [0,1,7,8] ?_
  repeat apply aA
  apply aB
  refine v1 (hc:=aO0.h {}) ?_
  refine v0 ?_
  apply aC
  refine dN [0,1,7,8] (h:=?_) (hV:=?_) (n':=l.length - (k+1))
  ·omega
  exact ⟨k+1,by omega,by rw [hi,fC hx];simp_all,rfl,rfl⟩
 replace hb1:=hB.h {} hb1
 repeat apply aA
 refine bY ?_
 repeat (first|refine bI ?_|refine aY ?_|refine bC ?_|refine bJ rfl ?_)
 refine cl [] ?_
 repeat apply aA
 apply aB
 refine v0 ?_
 apply aC
 repeat apply aA
 refine aL ?_
 repeat (first|refine aH ?_|refine aE ?_|refine aD ?_)
 refine aM ?_
 refine fp ?_
 simp only [dT.at,cL.ok.injEq,G.p.injEq,P.int.injEq,true_and,and_true]
 first
 |(rw [hi,fC hx];simp_all;done)
 |(rw [hi,List.drop_eq_nil_of_le (by omega)];rfl)
theorem aNE:aJ Tryz.prog 152:=aJ.mk Tryz.func152 (by kernel_rfl) rfl
theorem aNF (l:List (nB)) (hl:l.length≤1048576)  : Gh.bD E 152 [.p (.list (l.map eE)),.fn (.func 151) [] [.ptr [.p (.fn (.func 150) [] [])],.ptr [.p (.fn (.func 149) [] [])]]] (aG []) A (fun y=>y = .ok (.p (.bool (l.any fD))) (aG []) A):=by
 refine spX 9 Tryz.func152 rfl ?_
 intro C hN hL
 simp only [Gh.num,List.map_cons,List.map_nil,Nat.reduceAdd]
 repeat apply aA
 apply aB
 refine v0 ?_
 apply aC
 refine cl [0,1] ?_
 repeat apply aA
 apply aB
 iterate 2 refine v0 ?_
 refine oc0 [] [] [0,0] none (spec:=aND l hl ) (hent:=aNC) ?_
 iterate 2 refine v0 ?_
 apply aC
 repeat apply aA
 refine aL ?_
 repeat (first|refine aH ?_|refine aE ?_|refine aD ?_)
 refine aM ?_
 refine fp ?_
 rw [←nQ fD l 0]
theorem aJL:aJ Tryz.prog 115:=aJ.mk Tryz.func115 (by kernel_rfl) rfl
theorem aCy (p:Plt) (h:p.st.length≤1048576):Gh.bD E 115 [.p (gC p)] (aG []) A (fun y=>y = .ok (.p (.bool p.valid)) (aG []) A):=by
 refine spX 23 Tryz.func115 rfl ?_
 intro C hN hL
 simp only [Gh.num,List.map_cons,List.map_nil,Nat.reduceAdd]
 unfold gC
 have hps:∀s:nB,eE s = .agg [.int .i64 s.x.1,.int .i64 s.x.2,.int .i64 s.y.1,.int .i64 s.y.2,.bool s.kn,.int .i64 s.e.1,.int .i64 s.e.2,.int .i64 s.n.1,.int .i64 s.n.2]:=fun _=>rfl
 repeat apply aA
 apply aB
 refine n1 110 false (hc:=aEx.h {}) ?_
 refine v0 ?_
 apply aC
 refine cl [1] ?_
 repeat apply aA
 apply aB
 refine n1 130 false (hc:=aEx.h {}) ?_
 refine s1 (hc:=aEx.h {}) ?_
 apply aC
 refine cl [1,3] ?_
 repeat apply aA
 apply aB
 refine n1 140 false (hc:=aEx.h {}) ?_
 refine s1 (hc:=aEx.h {}) ?_
 apply aC
 refine cl [1,3,4] ?_
 repeat apply aA
 refine fz 130 1 [.k] ?_
 refine fz 140 1 [.k] ?_
 apply aB
 iterate 2 refine v0 ?_
 apply aC
 refine cl [1,5] ?_
 repeat apply aA
 refine cv 5 (.f [.n [.k],.n [.k]]) ?_
 apply aB
 iterate 2 refine v0 ?_
 refine pc0 (spec:=lC p.sc.1 p.sc.2 (1) (1000)) (hent:=tQ) ?_
 refine v0 ?_
 refine b0 (k1:=fun hb1=>?_) (k0:=fun hb1=>?_)
 ·replace hb1:=hB.h {} hb1
  iterate 4 refine w0 ?_
  iterate 2 refine v0 ?_
  refine b0 (k1:=fun hb2=>?_) (k0:=fun hb2=>?_)
  ·replace hb2:=hB.h {} hb2
   iterate 3 refine w0 ?_
   refine ocw [] [] [0,0] none (spec:=aNF p.st h) (hent:=aNE) ?_
   refine w0 ?_
   iterate 2 refine v0 ?_
   apply aC
   repeat apply aA
   refine aL ?_
   repeat (first|refine aH ?_|refine aE ?_|refine aD ?_)
   refine aM ?_
   refine fp ?_
   simp only [Plt.valid,spB] at *
   simp_all
   all_goals (intros;exfalso;omega)
  replace hb2:=hB.h {} hb2
  iterate 5 refine x0 ?_
  iterate 2 refine v0 ?_
  apply aC
  repeat apply aA
  refine aL ?_
  repeat (first|refine aH ?_|refine aE ?_|refine aD ?_)
  refine aM ?_
  refine fp ?_
  simp only [Plt.valid,spB] at *
  simp_all
  all_goals (intros;exfalso;omega)
 replace hb1:=hB.h {} hb1
 iterate 4 refine x0 ?_
 iterate 2 refine v0 ?_
 iterate 5 refine x0 ?_
 iterate 2 refine v0 ?_
 apply aC
 repeat apply aA
 refine aL ?_
 repeat (first|refine aH ?_|refine aE ?_|refine aD ?_)
 refine aM ?_
 refine fp ?_
 simp only [Plt.valid,spB] at *
 simp_all
 all_goals (intros;exfalso;omega)
end
section
open Go.Gh
variable {E:Env Tryz.prog} {A:E.α}
structure aB1 (c:Prop):Prop where
 h:c:=by (first|exact True.intro|omega|(simp only [inI];omega)|(simp [P.size,bU,bG,bR,bB,cS,good,G.one,P.one,P.cells]<;>first|omega|assumption|simp_all))
structure aLH (c:Prop):Prop where
 h:c:=by (first|exact True.intro|omega|(simp [P.size]<;>first|omega|(intro x a b _ h;subst h;rfl)|(intro x a b d _ h;subst h;rfl)|(intro a _;rfl))|(simp [P.size];exact ⟨by omega,fun a _=>rfl⟩)|omega|(simp only [inI];omega)|(simp [P.size,bU,bG,bR,bB,cS,good,G.one,P.one,P.cells]<;>first|omega|assumption|simp_all))
def inB (lo hi n:Int):Bool:=decide (lo≤n)&&decide (n≤hi)
def oQ (ps:Int) (k:Int×Int):Bool:=!(decide (¬k.1=k.2)&&inB 0 (ps - 1) k.1&&inB 0 (ps - 1) k.2)
def rD (pl ps:Int) (r:Int×Int×Int):Bool:=oQ ps r.2 || !inB 0 (pl - 1) r.1
def Chn.valid (c:Chn):Bool:=inB 1 4 c.pl&&inB 1 8 c.ps&&inB 0 20 c.ms&&decide ((c.kn.length:Int)≤28)&&decide ((c.rs.length:Int)≤12) && !c.kn.any (oQ c.ps) && !c.rs.any (rD c.pl c.ps)
def fA (e:Int×Int):Bool:=!spB (-100) 100 e
def sZ (im:Int) (n:Nat) (s:Stg):Bool:=!inB 0 (im - 1) s.im || !inB 0 ((n:Int)*1000 - 1) s.rd
def Msr.valid (m:Msr):Bool:=inB 1 40 m.er.length&&spB (-100) 100 m.ey && !m.er.any fA&&inB 1 6 m.im&&spB 0 131072 m.su&&decide ((m.se.length:Int)≤12) && !m.se.any (sZ m.im m.er.length)
theorem aJM:aJ Tryz.prog 153:=aJ.mk Tryz.func153 (by kernel_rfl) rfl
theorem aMe (c:Chn) (hp:1≤c.ps∧c.ps≤8) (hq:1≤c.pl∧c.pl≤4) (a b:Int):Gh.bD E 153 [.p (.int .i64 a),.p (.int .i64 b),.ptr [.p (.int .i64 c.pl),.p (.int .i64 c.ps),.p (.list (c.kn.map pSp)),.p (.list (c.rs.map pRc)),.p (.int .i64 c.ms)]] (aG []) A (fun y=>y = .ok (.p (.bool (!oQ c.ps (a,b)))) (aG []) A):=by
 refine spX 23 Tryz.func153 rfl ?_
 intro C hN hL
 simp only [Gh.num,List.map_cons,List.map_nil,Nat.reduceAdd]
 repeat apply aA
 apply aB
 refine v0 ?_
 apply aC
 refine cl [0,1,2] ?_
 repeat apply aA
 apply aB
 iterate 4 refine v0 ?_
 refine b0 (k1:=fun hb1=>?_) (k0:=fun hb1=>?_)
 ·replace hb1:=hB.h {} hb1
  iterate 3 refine w0 ?_
  refine w1 (hc:=aB1.h {}) ?_
  refine pcw (spec:=gB _ _ _) (hent:=mZ) ?_
  iterate 2 refine v0 ?_
  refine b0 (k1:=fun hb2=>?_) (k0:=fun hb2=>?_)
  ·replace hb2:=hB.h {} hb2
   iterate 3 refine w0 ?_
   refine w1 (hc:=aB1.h {}) ?_
   refine pcw (spec:=gB _ _ _) (hent:=mZ) ?_
   iterate 2 refine v0 ?_
   apply aC
   repeat apply aA
   refine aL ?_
   repeat (first|refine aH ?_|refine aE ?_|refine aD ?_)
   refine aM ?_
   refine fp ?_
   simp only [oQ,inB,Bool.not_not] at *
   simp_all
   all_goals (intros;omega)
  replace hb2:=hB.h {} hb2
  iterate 5 refine x0 ?_
  iterate 2 refine v0 ?_
  apply aC
  repeat apply aA
  refine aL ?_
  repeat (first|refine aH ?_|refine aE ?_|refine aD ?_)
  refine aM ?_
  refine fp ?_
  simp only [oQ,inB,Bool.not_not] at *
  simp_all
  all_goals (intros;omega)
 replace hb1:=hB.h {} hb1
 iterate 5 refine x0 ?_
 iterate 2 refine v0 ?_
 iterate 5 refine x0 ?_
 iterate 2 refine v0 ?_
 apply aC
 repeat apply aA
 refine aL ?_
 repeat (first|refine aH ?_|refine aE ?_|refine aD ?_)
 refine aM ?_
 refine fp ?_
 simp only [oQ,inB,Bool.not_not] at *
 simp_all
 all_goals (intros;omega)
theorem aNG:aJ Tryz.prog 154:=aJ.mk Tryz.func154 (by kernel_rfl) rfl
theorem aNH (c:Chn) (hp:1≤c.ps∧c.ps≤8) (hq:1≤c.pl∧c.pl≤4) (z:Int×Int):Gh.bD E 154 [.p (pSp z),.ptr [.fn (.func 153) [] [.ptr [.p (.int .i64 c.pl),.p (.int .i64 c.ps),.p (.list (c.kn.map pSp)),.p (.list (c.rs.map pRc)),.p (.int .i64 c.ms)]]]] (aG []) A (fun y=>y = .ok (.p (.bool (oQ c.ps z))) (aG []) A):=by
 refine spX 11 Tryz.func154 rfl ?_
 intro C hN hL
 simp only [Gh.num,List.map_cons,List.map_nil,Nat.reduceAdd]
 have hpsp:∀s:Int×Int,pSp s = .agg [.int .i64 s.1,.int .i64 s.2]:=fun _=>rfl
 repeat apply aA
 apply aB
 refine n1 120 false (hc:=aB1.h {}) ?_
 refine v0 ?_
 apply aC
 refine cl [1,2] ?_
 repeat apply aA
 apply aB
 refine v0 ?_
 refine v1 (hc:=aB1.h {}) ?_
 refine v0 ?_
 refine v1 (hc:=aB1.h {}) ?_
 refine v0 ?_
 refine oc0 [] [] [0,0,0] none (spec:=aMe c hp hq z.1 z.2) (hent:=aJM) ?_
 iterate 2 refine v0 ?_
 apply aC
 repeat apply aA
 refine aL ?_
 repeat (first|refine aH ?_|refine aE ?_|refine aD ?_)
 refine aM ?_
 refine fp ?_
 simp
theorem aNI:aJ Tryz.prog 155:=aJ.mk Tryz.func155 (by kernel_rfl) rfl
theorem aNJ (c:Chn) (hp:1≤c.ps∧c.ps≤8) (hq:1≤c.pl∧c.pl≤4) (z:Int×Int×Int):Gh.bD E 155 [.p (pRc z),.ptr [.fn (.func 153) [] [.ptr [.p (.int .i64 c.pl),.p (.int .i64 c.ps),.p (.list (c.kn.map pSp)),.p (.list (c.rs.map pRc)),.p (.int .i64 c.ms)]]],.ptr [.p (.int .i64 c.pl),.p (.int .i64 c.ps),.p (.list (c.kn.map pSp)),.p (.list (c.rs.map pRc)),.p (.int .i64 c.ms)]] (aG []) A (fun y=>y = .ok (.p (.bool (rD c.pl c.ps z))) (aG []) A):=by
 refine spX 21 Tryz.func155 rfl ?_
 intro C hN hL
 simp only [Gh.num,List.map_cons,List.map_nil,Nat.reduceAdd]
 have hprc:∀s:Int×Int×Int,pRc s = .agg [.int .i64 s.1,.int .i64 s.2.1,.int .i64 s.2.2]:=fun _=>rfl
 repeat apply aA
 apply aB
 refine n1 130 false (hc:=aB1.h {}) ?_
 refine v0 ?_
 apply aC
 refine cl [1,2,3] ?_
 repeat apply aA
 apply aB
 iterate 5 refine v0 ?_
 refine oc0 [] [] [0,0,0] none (spec:=aMe c hp hq z.2.1 z.2.2) (hent:=aJM) ?_
 iterate 2 refine v0 ?_
 refine b0 (k1:=fun hb1=>?_) (k0:=fun hb1=>?_)
 ·replace hb1:=hB.h {} hb1
  iterate 7 refine x0 ?_
  iterate 2 refine v0 ?_
  apply aC
  repeat apply aA
  refine aL ?_
  repeat (first|refine aH ?_|refine aE ?_|refine aD ?_)
  refine aM ?_
  refine fp ?_
  simp only [rD,inB] at *
  simp_all
 replace hb1:=hB.h {} hb1
 iterate 4 refine w0 ?_
 refine w1 (hc:=aB1.h {}) ?_
 refine pcw (spec:=gB _ _ _) (hent:=mZ) ?_
 refine w0 ?_
 iterate 2 refine v0 ?_
 apply aC
 repeat apply aA
 refine aL ?_
 repeat (first|refine aH ?_|refine aE ?_|refine aD ?_)
 refine aM ?_
 refine fp ?_
 simp only [rD,inB] at *
 simp_all
theorem aNK:aJ Tryz.prog 172:=aJ.mk Tryz.func172 (by kernel_rfl) rfl
theorem aNL (l:List (Int×Int)) (hl:l.length≤1048576) (c:Chn) (hp:1≤c.ps∧c.ps≤8) (hq:1≤c.pl∧c.pl≤4):Gh.bD E 172 [.p (.list (l.map pSp)),.fn (.func 154) [] [.ptr [.fn (.func 153) [] [.ptr [.p (.int .i64 c.pl),.p (.int .i64 c.ps),.p (.list (c.kn.map pSp)),.p (.list (c.rs.map pRc)),.p (.int .i64 c.ms)]]]]] (aG []) A (fun y=>y = .ok (.p (.int .i64 (lE (oQ c.ps) l 0))) (aG []) A):=by
 refine spX 19 Tryz.func172 rfl ?_
 intro C hN hL
 simp only [Gh.num,List.map_cons,List.map_nil,Nat.reduceAdd]
 have hpsp:∀s:Int×Int,pSp s = .agg [.int .i64 s.1,.int .i64 s.2]:=fun _=>rfl
 repeat apply aA
 apply aB
 refine v0 ?_
 apply aC
 refine cl [0,1] ?_
 repeat apply aA
 apply aB
 iterate 3 refine v0 ?_
 apply aC
 refine cl [0,1,7,8] ?_
 repeat apply aA
 refine aP ?_
 repeat apply aA
 refine cJ (fun mz σ=>∃k:Nat,(k≤l.length)∧(lE (oQ c.ps) l 0=lE (oQ c.ps) (l.drop k) k)∧mz=l.length - k∧σ=(sg [(0,.p (.list (l.map pSp))),(1,.fn (.func 154) [] [.ptr [.fn (.func 153) [] [.ptr [.p (.int .i64 c.pl),.p (.int .i64 c.ps),.p (.list (c.kn.map pSp)),.p (.list (c.rs.map pRc)),.p (.int .i64 c.ms)]]]]),(7,.p (.int .i64 l.length)),(8,.p (.int .i64 k))] [] A []:Sg E)) ?_ (fun mz σ hI=>?_)
 ·refine gA [0,1,7,8] ?_
  exact ⟨_,0,by omega,by simp,rfl,rfl⟩
 obtain ⟨k,hk,hi,hn,rfl⟩:=hI
 repeat apply aA
 apply aB
 refine v0 ?_
 apply aC
 repeat apply aA
 refine cB (k1:=fun hb1=>?_) (k0:=fun hb1=>?_)
 ·replace hb1:=hB.h {} hb1
  repeat apply aA
  refine aQ ?_
  refine cl [0,1,7,8] ?_
  repeat apply aA
  refine aP ?_
  repeat apply aA
  apply aB
  iterate 2 refine v0 ?_
  apply aC
  refine cl [0,1,5,7,8] ?_
  repeat apply aA
  obtain ⟨x,hx⟩:=fT (l:=l) (k:=k) (by omega)
  apply aB
  iterate 3 refine v0 ?_
  refine v1 (hc:=aLH.h {}) ?_
  refine v0 ?_
  refine oc0 [] [] [0,0] none (spec:=aNH c hp hq x) (hent:=aNG) ?_
  apply aC
  repeat apply aA
  refine cB (k1:=fun hb2=>?_) (k0:=fun hb2=>?_)
  ·replace hb2:=hB.h {} hb2
   repeat apply aA
   apply aB
   iterate 2 refine v0 ?_
   apply aC
   repeat apply aA
   refine aL ?_
   repeat (first|refine aH ?_|refine aE ?_|refine aD ?_)
   refine aM ?_
   refine fp ?_
   simp only [dT.at,cL.ok.injEq,G.p.injEq,P.int.injEq,true_and,and_true]
   first
   |(rw [hi,fC hx];simp_all;done)
   |(rw [hi,List.drop_eq_nil_of_le (by omega)];rfl)
  replace hb2:=hB.h {} hb2
  repeat apply aA
  refine aQ ?_
  refine cl [0,1,7,8] ?_
  repeat apply aA
  apply aB
  refine v1 (hc:=aLH.h {}) ?_
  refine v0 ?_
  apply aC
  refine dN [0,1,7,8] (h:=?_) (hV:=?_) (n':=l.length - (k+1))
  ·omega
  exact ⟨k+1,by omega,by rw [hi,fC hx];simp_all,rfl,rfl⟩
 replace hb1:=hB.h {} hb1
 repeat apply aA
 refine bY ?_
 repeat (first|refine bI ?_|refine aY ?_|refine bC ?_|refine bJ rfl ?_)
 refine cl [] ?_
 repeat apply aA
 apply aB
 refine v0 ?_
 apply aC
 repeat apply aA
 refine aL ?_
 repeat (first|refine aH ?_|refine aE ?_|refine aD ?_)
 refine aM ?_
 refine fp ?_
 simp only [dT.at,cL.ok.injEq,G.p.injEq,P.int.injEq,true_and,and_true]
 first
 |(rw [hi,fC hx];simp_all;done)
 |(rw [hi,List.drop_eq_nil_of_le (by omega)];rfl)
theorem aNM:aJ Tryz.prog 156:=aJ.mk Tryz.func156 (by kernel_rfl) rfl
theorem aNN (l:List (Int×Int)) (hl:l.length≤1048576) (c:Chn) (hp:1≤c.ps∧c.ps≤8) (hq:1≤c.pl∧c.pl≤4):Gh.bD E 156 [.p (.list (l.map pSp)),.fn (.func 154) [] [.ptr [.fn (.func 153) [] [.ptr [.p (.int .i64 c.pl),.p (.int .i64 c.ps),.p (.list (c.kn.map pSp)),.p (.list (c.rs.map pRc)),.p (.int .i64 c.ms)]]]]] (aG []) A (fun y=>y = .ok (.p (.bool (l.any (oQ c.ps)))) (aG []) A):=by
 refine spX 9 Tryz.func156 rfl ?_
 intro C hN hL
 simp only [Gh.num,List.map_cons,List.map_nil,Nat.reduceAdd]
 repeat apply aA
 apply aB
 refine v0 ?_
 apply aC
 refine cl [0,1] ?_
 repeat apply aA
 apply aB
 iterate 2 refine v0 ?_
 refine oc0 [] [] [0,0] none (spec:=aNL l hl c hp hq) (hent:=aNK) ?_
 iterate 2 refine v0 ?_
 apply aC
 repeat apply aA
 refine aL ?_
 repeat (first|refine aH ?_|refine aE ?_|refine aD ?_)
 refine aM ?_
 refine fp ?_
 rw [←nQ (oQ c.ps) l 0]
theorem aNO:aJ Tryz.prog 173:=aJ.mk Tryz.func173 (by kernel_rfl) rfl
theorem aNP (l:List (Int×Int×Int)) (hl:l.length≤1048576) (c:Chn) (hp:1≤c.ps∧c.ps≤8) (hq:1≤c.pl∧c.pl≤4):Gh.bD E 173 [.p (.list (l.map pRc)),.fn (.func 155) [] [.ptr [.fn (.func 153) [] [.ptr [.p (.int .i64 c.pl),.p (.int .i64 c.ps),.p (.list (c.kn.map pSp)),.p (.list (c.rs.map pRc)),.p (.int .i64 c.ms)]]],.ptr [.p (.int .i64 c.pl),.p (.int .i64 c.ps),.p (.list (c.kn.map pSp)),.p (.list (c.rs.map pRc)),.p (.int .i64 c.ms)]]] (aG []) A (fun y=>y = .ok (.p (.int .i64 (lE (rD c.pl c.ps) l 0))) (aG []) A):=by
 refine spX 19 Tryz.func173 rfl ?_
 intro C hN hL
 simp only [Gh.num,List.map_cons,List.map_nil,Nat.reduceAdd]
 have hprc:∀s:Int×Int×Int,pRc s = .agg [.int .i64 s.1,.int .i64 s.2.1,.int .i64 s.2.2]:=fun _=>rfl
 repeat apply aA
 apply aB
 refine v0 ?_
 apply aC
 refine cl [0,1] ?_
 repeat apply aA
 apply aB
 iterate 3 refine v0 ?_
 apply aC
 refine cl [0,1,7,8] ?_
 repeat apply aA
 refine aP ?_
 repeat apply aA
 refine cJ (fun mz σ=>∃k:Nat,(k≤l.length)∧(lE (rD c.pl c.ps) l 0=lE (rD c.pl c.ps) (l.drop k) k)∧mz=l.length - k∧σ=(sg [(0,.p (.list (l.map pRc))),(1,.fn (.func 155) [] [.ptr [.fn (.func 153) [] [.ptr [.p (.int .i64 c.pl),.p (.int .i64 c.ps),.p (.list (c.kn.map pSp)),.p (.list (c.rs.map pRc)),.p (.int .i64 c.ms)]]],.ptr [.p (.int .i64 c.pl),.p (.int .i64 c.ps),.p (.list (c.kn.map pSp)),.p (.list (c.rs.map pRc)),.p (.int .i64 c.ms)]]),(7,.p (.int .i64 l.length)),(8,.p (.int .i64 k))] [] A []:Sg E)) ?_ (fun mz σ hI=>?_)
 ·refine gA [0,1,7,8] ?_
  exact ⟨_,0,by omega,by simp,rfl,rfl⟩
 obtain ⟨k,hk,hi,hn,rfl⟩:=hI
 repeat apply aA
 apply aB
 refine v0 ?_
 apply aC
 repeat apply aA
 refine cB (k1:=fun hb1=>?_) (k0:=fun hb1=>?_)
 ·replace hb1:=hB.h {} hb1
  repeat apply aA
  refine aQ ?_
  refine cl [0,1,7,8] ?_
  repeat apply aA
  refine aP ?_
  repeat apply aA
  apply aB
  iterate 2 refine v0 ?_
  apply aC
  refine cl [0,1,5,7,8] ?_
  repeat apply aA
  obtain ⟨x,hx⟩:=fT (l:=l) (k:=k) (by omega)
  apply aB
  iterate 3 refine v0 ?_
  refine v1 (hc:=aLH.h {}) ?_
  refine v0 ?_
  refine oc0 [] [] [0,0,0] none (spec:=aNJ c hp hq x) (hent:=aNI) ?_
  apply aC
  repeat apply aA
  refine cB (k1:=fun hb2=>?_) (k0:=fun hb2=>?_)
  ·replace hb2:=hB.h {} hb2
   repeat apply aA
   apply aB
   iterate 2 refine v0 ?_
   apply aC
   repeat apply aA
   refine aL ?_
   repeat (first|refine aH ?_|refine aE ?_|refine aD ?_)
   refine aM ?_
   refine fp ?_
   simp only [dT.at,cL.ok.injEq,G.p.injEq,P.int.injEq,true_and,and_true]
   first
   |(rw [hi,fC hx];simp_all;done)
   |(rw [hi,List.drop_eq_nil_of_le (by omega)];rfl)
  replace hb2:=hB.h {} hb2
  repeat apply aA
  refine aQ ?_
  refine cl [0,1,7,8] ?_
  repeat apply aA
  apply aB
  refine v1 (hc:=aLH.h {}) ?_
  refine v0 ?_
  apply aC
  refine dN [0,1,7,8] (h:=?_) (hV:=?_) (n':=l.length - (k+1))
  ·omega
  exact ⟨k+1,by omega,by rw [hi,fC hx];simp_all,rfl,rfl⟩
 replace hb1:=hB.h {} hb1
 repeat apply aA
 refine bY ?_
 repeat (first|refine bI ?_|refine aY ?_|refine bC ?_|refine bJ rfl ?_)
 refine cl [] ?_
 repeat apply aA
 apply aB
 refine v0 ?_
 apply aC
 repeat apply aA
 refine aL ?_
 repeat (first|refine aH ?_|refine aE ?_|refine aD ?_)
 refine aM ?_
 refine fp ?_
 simp only [dT.at,cL.ok.injEq,G.p.injEq,P.int.injEq,true_and,and_true]
 first
 |(rw [hi,fC hx];simp_all;done)
 |(rw [hi,List.drop_eq_nil_of_le (by omega)];rfl)
theorem aNQ:aJ Tryz.prog 157:=aJ.mk Tryz.func157 (by kernel_rfl) rfl
theorem aNR (l:List (Int×Int×Int)) (hl:l.length≤1048576) (c:Chn) (hp:1≤c.ps∧c.ps≤8) (hq:1≤c.pl∧c.pl≤4):Gh.bD E 157 [.p (.list (l.map pRc)),.fn (.func 155) [] [.ptr [.fn (.func 153) [] [.ptr [.p (.int .i64 c.pl),.p (.int .i64 c.ps),.p (.list (c.kn.map pSp)),.p (.list (c.rs.map pRc)),.p (.int .i64 c.ms)]]],.ptr [.p (.int .i64 c.pl),.p (.int .i64 c.ps),.p (.list (c.kn.map pSp)),.p (.list (c.rs.map pRc)),.p (.int .i64 c.ms)]]] (aG []) A (fun y=>y = .ok (.p (.bool (l.any (rD c.pl c.ps)))) (aG []) A):=by
 refine spX 9 Tryz.func157 rfl ?_
 intro C hN hL
 simp only [Gh.num,List.map_cons,List.map_nil,Nat.reduceAdd]
 repeat apply aA
 apply aB
 refine v0 ?_
 apply aC
 refine cl [0,1] ?_
 repeat apply aA
 apply aB
 iterate 2 refine v0 ?_
 refine oc0 [] [] [0,0] none (spec:=aNP l hl c hp hq) (hent:=aNO) ?_
 iterate 2 refine v0 ?_
 apply aC
 repeat apply aA
 refine aL ?_
 repeat (first|refine aH ?_|refine aE ?_|refine aD ?_)
 refine aM ?_
 refine fp ?_
 rw [←nQ (rD c.pl c.ps) l 0]
theorem aJN:aJ Tryz.prog 124:=aJ.mk Tryz.func124 (by kernel_rfl) rfl
theorem aCz (c:Chn) (h1:c.kn.length≤1048576) (h2:c.rs.length≤1048576):Gh.bD E 124 [.p (gD c)] (aG []) A (fun y=>y = .ok (.p (.bool c.valid)) (aG []) A):=by
 refine spX 50 Tryz.func124 rfl ?_
 intro C hN hL
 simp only [Gh.num,List.map_cons,List.map_nil,Nat.reduceAdd]
 unfold gD
 have hpsp:∀s:Int×Int,pSp s = .agg [.int .i64 s.1,.int .i64 s.2]:=fun _=>rfl
 have hprc:∀s:Int×Int×Int,pRc s = .agg [.int .i64 s.1,.int .i64 s.2.1,.int .i64 s.2.2]:=fun _=>rfl
 repeat apply aA
 apply aB
 refine n1 110 false (hc:=aB1.h {}) ?_
 refine v0 ?_
 apply aC
 refine cl [1] ?_
 repeat apply aA
 apply aB
 refine v0 ?_
 refine n1 130 false (hc:=aB1.h {}) ?_
 refine s1 (hc:=aB1.h {}) ?_
 apply aC
 refine cl [1,3] ?_
 repeat apply aA
 refine fz 110 5 [.k,.k,.k,.k,.k] ?_
 refine fz 130 1 [.f [.n [.k,.k,.k,.k,.k]]] ?_
 apply aB
 iterate 2 refine v0 ?_
 apply aC
 refine cl [1,3,4] ?_
 repeat apply aA
 refine cv 4 (.f [.n [.k]]) ?_
 apply aB
 iterate 2 refine v0 ?_
 apply aC
 refine cl [1,4,5] ?_
 repeat apply aA
 refine cv 5 (.f [.n [.k],.n [.k,.k,.k,.k,.k]]) ?_
 apply aB
 iterate 2 refine v0 ?_
 refine pc0 (spec:=gB _ _ _) (hent:=mZ) ?_
 refine v0 ?_
 refine b0 (k1:=fun hb1=>?_) (k0:=fun hb1=>?_)
 ·replace hb1:=hB.h {} hb1
  iterate 2 refine w0 ?_
  refine pcw (spec:=gB _ _ _) (hent:=mZ) ?_
  iterate 2 refine v0 ?_
  refine b0 (k1:=fun hb2=>?_) (k0:=fun hb2=>?_)
  ·replace hb2:=hB.h {} hb2
   iterate 2 refine w0 ?_
   refine pcw (spec:=gB _ _ _) (hent:=mZ) ?_
   iterate 2 refine v0 ?_
   apply aC
   refine cl [1,4,5,6] ?_
   repeat apply aA
   apply aB
   iterate 2 refine v0 ?_
   refine b0 (k1:=fun hb3=>?_) (k0:=fun hb3=>?_)
   ·replace hb3:=hB.h {} hb3
    iterate 4 refine w0 ?_
    iterate 2 refine v0 ?_
    refine b0 (k1:=fun hb4=>?_) (k0:=fun hb4=>?_)
    ·replace hb4:=hB.h {} hb4
     iterate 4 refine w0 ?_
     iterate 2 refine v0 ?_
     refine b0 (k1:=fun hb5=>?_) (k0:=fun hb5=>?_)
     ·replace hb5:=hB.h {} hb5
      iterate 3 refine w0 ?_
      refine ocw [] [] [0,0] none (spec:=aNN c.kn h1 c (by omega) (by omega)) (hent:=aNM) ?_
      refine w0 ?_
      iterate 2 refine v0 ?_
      refine b0 (k1:=fun hb6=>?_) (k0:=fun hb6=>?_)
      ·replace hb6:=hB.h {} hb6
       iterate 3 refine w0 ?_
       refine ocw [] [] [0,0] none (spec:=aNR c.rs h2 c (by omega) (by omega)) (hent:=aNQ) ?_
       refine w0 ?_
       iterate 2 refine v0 ?_
       apply aC
       repeat apply aA
       refine aL ?_
       repeat (first|refine aH ?_|refine aE ?_|refine aD ?_)
       refine aM ?_
       refine fp ?_
       simp only [Chn.valid,inB] at *
       generalize c.kn.any (oQ c.ps)=u at *
       generalize c.rs.any (rD c.pl c.ps)=v at *
       simp_all
       all_goals (first|(intros;omega)|(intros;exfalso;omega))
      replace hb6:=hB.h {} hb6
      iterate 5 refine x0 ?_
      iterate 2 refine v0 ?_
      apply aC
      repeat apply aA
      refine aL ?_
      repeat (first|refine aH ?_|refine aE ?_|refine aD ?_)
      refine aM ?_
      refine fp ?_
      simp only [Chn.valid,inB] at *
      generalize c.kn.any (oQ c.ps)=u at *
      generalize c.rs.any (rD c.pl c.ps)=v at *
      simp_all
      all_goals (first|(intros;omega)|(intros;exfalso;omega))
     replace hb5:=hB.h {} hb5
     iterate 5 refine x0 ?_
     iterate 2 refine v0 ?_
     iterate 5 refine x0 ?_
     iterate 2 refine v0 ?_
     apply aC
     repeat apply aA
     refine aL ?_
     repeat (first|refine aH ?_|refine aE ?_|refine aD ?_)
     refine aM ?_
     refine fp ?_
     simp only [Chn.valid,inB] at *
     generalize c.kn.any (oQ c.ps)=u at *
     generalize c.rs.any (rD c.pl c.ps)=v at *
     simp_all
     all_goals (first|(intros;omega)|(intros;exfalso;omega))
    replace hb4:=hB.h {} hb4
    iterate 4 refine x0 ?_
    iterate 2 refine v0 ?_
    iterate 5 refine x0 ?_
    iterate 2 refine v0 ?_
    iterate 5 refine x0 ?_
    iterate 2 refine v0 ?_
    apply aC
    repeat apply aA
    refine aL ?_
    repeat (first|refine aH ?_|refine aE ?_|refine aD ?_)
    refine aM ?_
    refine fp ?_
    simp only [Chn.valid,inB] at *
    generalize c.kn.any (oQ c.ps)=u at *
    generalize c.rs.any (rD c.pl c.ps)=v at *
    simp_all
    all_goals (first|(intros;omega)|(intros;exfalso;omega))
   replace hb3:=hB.h {} hb3
   iterate 4 refine x0 ?_
   iterate 2 refine v0 ?_
   iterate 4 refine x0 ?_
   iterate 2 refine v0 ?_
   iterate 5 refine x0 ?_
   iterate 2 refine v0 ?_
   iterate 5 refine x0 ?_
   iterate 2 refine v0 ?_
   apply aC
   repeat apply aA
   refine aL ?_
   repeat (first|refine aH ?_|refine aE ?_|refine aD ?_)
   refine aM ?_
   refine fp ?_
   simp only [Chn.valid,inB] at *
   generalize c.kn.any (oQ c.ps)=u at *
   generalize c.rs.any (rD c.pl c.ps)=v at *
   simp_all
   all_goals (first|(intros;omega)|(intros;exfalso;omega))
  replace hb2:=hB.h {} hb2
  iterate 3 refine x0 ?_
  iterate 2 refine v0 ?_
  apply aC
  refine cl [1,4,5,6] ?_
  repeat apply aA
  apply aB
  iterate 2 refine v0 ?_
  iterate 4 refine x0 ?_
  iterate 2 refine v0 ?_
  iterate 4 refine x0 ?_
  iterate 2 refine v0 ?_
  iterate 5 refine x0 ?_
  iterate 2 refine v0 ?_
  iterate 5 refine x0 ?_
  iterate 2 refine v0 ?_
  apply aC
  repeat apply aA
  refine aL ?_
  repeat (first|refine aH ?_|refine aE ?_|refine aD ?_)
  refine aM ?_
  refine fp ?_
  simp only [Chn.valid,inB] at *
  generalize c.kn.any (oQ c.ps)=u at *
  generalize c.rs.any (rD c.pl c.ps)=v at *
  simp_all
  all_goals (first|(intros;omega)|(intros;exfalso;omega))
 replace hb1:=hB.h {} hb1
 iterate 3 refine x0 ?_
 iterate 2 refine v0 ?_
 iterate 3 refine x0 ?_
 iterate 2 refine v0 ?_
 apply aC
 refine cl [1,4,5,6] ?_
 repeat apply aA
 apply aB
 iterate 2 refine v0 ?_
 iterate 4 refine x0 ?_
 iterate 2 refine v0 ?_
 iterate 4 refine x0 ?_
 iterate 2 refine v0 ?_
 iterate 5 refine x0 ?_
 iterate 2 refine v0 ?_
 iterate 5 refine x0 ?_
 iterate 2 refine v0 ?_
 apply aC
 repeat apply aA
 refine aL ?_
 repeat (first|refine aH ?_|refine aE ?_|refine aD ?_)
 refine aM ?_
 refine fp ?_
 simp only [Chn.valid,inB] at *
 generalize c.kn.any (oQ c.ps)=u at *
 generalize c.rs.any (rD c.pl c.ps)=v at *
 simp_all
 all_goals (first|(intros;omega)|(intros;exfalso;omega))
end
section
open Go.Gh
variable {E:Env Tryz.prog} {A:E.α}
structure aEy (c:Prop):Prop where
 h:c:=by (first|exact True.intro|omega|(simp only [inI];omega)|(simp [P.size,bU,bG,bR,bB,cS,good,G.one,P.one,P.cells]<;>first|omega|assumption|simp_all))
structure aLI (c:Prop):Prop where
 h:c:=by (first|exact True.intro|omega|(simp [P.size]<;>first|omega|(intro x a b _ h;subst h;rfl)|(intro x a b d _ h;subst h;rfl)|(intro a _;rfl))|(simp [P.size];exact ⟨by omega,fun a _=>rfl⟩)|omega|(simp only [inI];omega)|(simp [P.size,bU,bG,bR,bB,cS,good,G.one,P.one,P.cells]<;>first|omega|assumption|simp_all))
theorem aJO:aJ Tryz.prog 140:=aJ.mk Tryz.func140 (by kernel_rfl) rfl
theorem aEz (s:Int×Int):bF Tryz.prog 140 [pSp s] (.ok (.bool (fA s))):=by
 refine bL Tryz.func140 (rfl:Tryz.f140.body=some _) rfl ?_
 intro E A C hN hL
 replace hN:C.N=6:=hN
 simp only [Gh.num,List.map_cons,List.map_nil,Nat.reduceAdd]
 have hpsp:∀s:Int×Int,pSp s = .agg [.int .i64 s.1,.int .i64 s.2]:=fun _=>rfl
 repeat apply aA
 apply aB
 refine n1 110 false (hc:=aEy.h {}) ?_
 refine v0 ?_
 apply aC
 refine cl [1] ?_
 repeat apply aA
 apply aB
 refine v0 ?_
 refine pc0 (spec:=lC s.1 s.2 (-100) (100)) (hent:=tQ) ?_
 iterate 2 refine v0 ?_
 apply aC
 repeat apply aA
 refine aL ?_
 repeat (first|refine aH ?_|refine aE ?_|refine aD ?_)
 refine aM ?_
 refine fp ?_
 rfl
theorem aNS:aJ Tryz.prog 141:=aJ.mk Tryz.func141 (by kernel_rfl) rfl
theorem aNT (m:Msr) (hq:1≤m.im∧m.im≤6) (he:m.er.length≤40) (z:Stg):Gh.bD E 141 [.p (fK z),.ptr [.p (.list (m.er.map pSp)),.p (.int .i64 m.ey.1),.p (.int .i64 m.ey.2),.p (.int .i64 m.im),.p (.int .i64 m.su.1),.p (.int .i64 m.su.2),.p (.list (m.se.map fK))],.ptr [.p (.int .i64 (m.er.length:Nat))]] (aG []) A (fun y=>y = .ok (.p (.bool (sZ m.im m.er.length z))) (aG []) A):=by
 refine spX 21 Tryz.func141 rfl ?_
 intro C hN hL
 simp only [Gh.num,List.map_cons,List.map_nil,Nat.reduceAdd]
 have hpsg:∀s:Stg,fK s = .agg [.int .i64 s.im,.int .i64 s.rd,.bool s.rv]:=fun _=>rfl
 repeat apply aA
 apply aB
 refine n1 130 false (hc:=aEy.h {}) ?_
 refine v0 ?_
 apply aC
 refine cl [1,2,3] ?_
 repeat apply aA
 apply aB
 iterate 4 refine v0 ?_
 refine v1 (hc:=aEy.h {}) ?_
 refine pc0 (spec:=gB _ _ _) (hent:=mZ) ?_
 iterate 2 refine v0 ?_
 refine b0 (k1:=fun hb1=>?_) (k0:=fun hb1=>?_)
 ·replace hb1:=hB.h {} hb1
  iterate 7 refine x0 ?_
  iterate 2 refine v0 ?_
  apply aC
  repeat apply aA
  refine aL ?_
  repeat (first|refine aH ?_|refine aE ?_|refine aD ?_)
  refine aM ?_
  refine fp ?_
  simp only [sZ,inB] at *
  simp_all
 replace hb1:=hB.h {} hb1
 iterate 3 refine w0 ?_
 iterate 2 refine w1 (hc:=aEy.h {}) ?_
 refine pcw (spec:=gB _ _ _) (hent:=mZ) ?_
 refine w0 ?_
 iterate 2 refine v0 ?_
 apply aC
 repeat apply aA
 refine aL ?_
 repeat (first|refine aH ?_|refine aE ?_|refine aD ?_)
 refine aM ?_
 refine fp ?_
 simp only [sZ,inB] at *
 simp_all
theorem aNU:aJ Tryz.prog 166:=aJ.mk Tryz.func166 (by kernel_rfl) rfl
theorem aNV (l:List (Int×Int)) (hl:l.length≤1048576)  : Gh.bD E 166 [.p (.list (l.map pSp)),.p (.fn (.func 140) [] [])] (aG []) A (fun y=>y = .ok (.p (.int .i64 (lE fA l 0))) (aG []) A):=by
 refine spX 19 Tryz.func166 rfl ?_
 intro C hN hL
 simp only [Gh.num,List.map_cons,List.map_nil,Nat.reduceAdd]
 have hpsp:∀s:Int×Int,pSp s = .agg [.int .i64 s.1,.int .i64 s.2]:=fun _=>rfl
 repeat apply aA
 apply aB
 refine v0 ?_
 apply aC
 refine cl [0,1] ?_
 repeat apply aA
 apply aB
 iterate 3 refine v0 ?_
 apply aC
 refine cl [0,1,7,8] ?_
 repeat apply aA
 refine aP ?_
 repeat apply aA
 refine cJ (fun mz σ=>∃k:Nat,(k≤l.length)∧(lE fA l 0=lE fA (l.drop k) k)∧mz=l.length - k∧σ=(sg [(0,.p (.list (l.map pSp))),(1,.p (.fn (.func 140) [] [])),(7,.p (.int .i64 l.length)),(8,.p (.int .i64 k))] [] A []:Sg E)) ?_ (fun mz σ hI=>?_)
 ·refine gA [0,1,7,8] ?_
  exact ⟨_,0,by omega,by simp,rfl,rfl⟩
 obtain ⟨k,hk,hi,hn,rfl⟩:=hI
 repeat apply aA
 apply aB
 refine v0 ?_
 apply aC
 repeat apply aA
 refine cB (k1:=fun hb1=>?_) (k0:=fun hb1=>?_)
 ·replace hb1:=hB.h {} hb1
  repeat apply aA
  refine aQ ?_
  refine cl [0,1,7,8] ?_
  repeat apply aA
  refine aP ?_
  repeat apply aA
  apply aB
  iterate 2 refine v0 ?_
  apply aC
  refine cl [0,1,5,7,8] ?_
  repeat apply aA
  obtain ⟨x,hx⟩:=fT (l:=l) (k:=k) (by omega)
  apply aB
  iterate 3 refine v0 ?_
  refine v1 (hc:=aLI.h {}) ?_
  refine v0 ?_
  refine pc0 (spec:=aEz x) (hent:=aJO) ?_
  apply aC
  repeat apply aA
  refine cB (k1:=fun hb2=>?_) (k0:=fun hb2=>?_)
  ·replace hb2:=hB.h {} hb2
   repeat apply aA
   apply aB
   iterate 2 refine v0 ?_
   apply aC
   repeat apply aA
   refine aL ?_
   repeat (first|refine aH ?_|refine aE ?_|refine aD ?_)
   refine aM ?_
   refine fp ?_
   simp only [dT.at,cL.ok.injEq,G.p.injEq,P.int.injEq,true_and,and_true]
   first
   |(rw [hi,fC hx];simp_all;done)
   |(rw [hi,List.drop_eq_nil_of_le (by omega)];rfl)
  replace hb2:=hB.h {} hb2
  repeat apply aA
  refine aQ ?_
  refine cl [0,1,7,8] ?_
  repeat apply aA
  apply aB
  refine v1 (hc:=aLI.h {}) ?_
  refine v0 ?_
  apply aC
  refine dN [0,1,7,8] (h:=?_) (hV:=?_) (n':=l.length - (k+1))
  ·omega
  exact ⟨k+1,by omega,by rw [hi,fC hx];simp_all,rfl,rfl⟩
 replace hb1:=hB.h {} hb1
 repeat apply aA
 refine bY ?_
 repeat (first|refine bI ?_|refine aY ?_|refine bC ?_|refine bJ rfl ?_)
 refine cl [] ?_
 repeat apply aA
 apply aB
 refine v0 ?_
 apply aC
 repeat apply aA
 refine aL ?_
 repeat (first|refine aH ?_|refine aE ?_|refine aD ?_)
 refine aM ?_
 refine fp ?_
 simp only [dT.at,cL.ok.injEq,G.p.injEq,P.int.injEq,true_and,and_true]
 first
 |(rw [hi,fC hx];simp_all;done)
 |(rw [hi,List.drop_eq_nil_of_le (by omega)];rfl)
theorem aNW:aJ Tryz.prog 142:=aJ.mk Tryz.func142 (by kernel_rfl) rfl
theorem aNX (l:List (Int×Int)) (hl:l.length≤1048576)  : Gh.bD E 142 [.p (.list (l.map pSp)),.p (.fn (.func 140) [] [])] (aG []) A (fun y=>y = .ok (.p (.bool (l.any fA))) (aG []) A):=by
 refine spX 9 Tryz.func142 rfl ?_
 intro C hN hL
 simp only [Gh.num,List.map_cons,List.map_nil,Nat.reduceAdd]
 repeat apply aA
 apply aB
 refine v0 ?_
 apply aC
 refine cl [0,1] ?_
 repeat apply aA
 apply aB
 iterate 2 refine v0 ?_
 refine oc0 [] [] [0,0] none (spec:=aNV l hl ) (hent:=aNU) ?_
 iterate 2 refine v0 ?_
 apply aC
 repeat apply aA
 refine aL ?_
 repeat (first|refine aH ?_|refine aE ?_|refine aD ?_)
 refine aM ?_
 refine fp ?_
 rw [←nQ fA l 0]
theorem aNY:aJ Tryz.prog 167:=aJ.mk Tryz.func167 (by kernel_rfl) rfl
theorem aNZ (l:List (Stg)) (hl:l.length≤1048576) (m:Msr) (hq:1≤m.im∧m.im≤6) (he:m.er.length≤40):Gh.bD E 167 [.p (.list (l.map fK)),.fn (.func 141) [] [.ptr [.p (.list (m.er.map pSp)),.p (.int .i64 m.ey.1),.p (.int .i64 m.ey.2),.p (.int .i64 m.im),.p (.int .i64 m.su.1),.p (.int .i64 m.su.2),.p (.list (m.se.map fK))],.ptr [.p (.int .i64 (m.er.length:Nat))]]] (aG []) A (fun y=>y = .ok (.p (.int .i64 (lE (sZ m.im m.er.length) l 0))) (aG []) A):=by
 refine spX 19 Tryz.func167 rfl ?_
 intro C hN hL
 simp only [Gh.num,List.map_cons,List.map_nil,Nat.reduceAdd]
 have hpsg:∀s:Stg,fK s = .agg [.int .i64 s.im,.int .i64 s.rd,.bool s.rv]:=fun _=>rfl
 repeat apply aA
 apply aB
 refine v0 ?_
 apply aC
 refine cl [0,1] ?_
 repeat apply aA
 apply aB
 iterate 3 refine v0 ?_
 apply aC
 refine cl [0,1,7,8] ?_
 repeat apply aA
 refine aP ?_
 repeat apply aA
 refine cJ (fun mz σ=>∃k:Nat,(k≤l.length)∧(lE (sZ m.im m.er.length) l 0=lE (sZ m.im m.er.length) (l.drop k) k)∧mz=l.length - k∧σ=(sg [(0,.p (.list (l.map fK))),(1,.fn (.func 141) [] [.ptr [.p (.list (m.er.map pSp)),.p (.int .i64 m.ey.1),.p (.int .i64 m.ey.2),.p (.int .i64 m.im),.p (.int .i64 m.su.1),.p (.int .i64 m.su.2),.p (.list (m.se.map fK))],.ptr [.p (.int .i64 (m.er.length:Nat))]]),(7,.p (.int .i64 l.length)),(8,.p (.int .i64 k))] [] A []:Sg E)) ?_ (fun mz σ hI=>?_)
 ·refine gA [0,1,7,8] ?_
  exact ⟨_,0,by omega,by simp,rfl,rfl⟩
 obtain ⟨k,hk,hi,hn,rfl⟩:=hI
 repeat apply aA
 apply aB
 refine v0 ?_
 apply aC
 repeat apply aA
 refine cB (k1:=fun hb1=>?_) (k0:=fun hb1=>?_)
 ·replace hb1:=hB.h {} hb1
  repeat apply aA
  refine aQ ?_
  refine cl [0,1,7,8] ?_
  repeat apply aA
  refine aP ?_
  repeat apply aA
  apply aB
  iterate 2 refine v0 ?_
  apply aC
  refine cl [0,1,5,7,8] ?_
  repeat apply aA
  obtain ⟨x,hx⟩:=fT (l:=l) (k:=k) (by omega)
  apply aB
  iterate 3 refine v0 ?_
  refine v1 (hc:=aLI.h {}) ?_
  refine v0 ?_
  refine oc0 [] [] [0,0,0] none (spec:=aNT m hq he x) (hent:=aNS) ?_
  apply aC
  repeat apply aA
  refine cB (k1:=fun hb2=>?_) (k0:=fun hb2=>?_)
  ·replace hb2:=hB.h {} hb2
   repeat apply aA
   apply aB
   iterate 2 refine v0 ?_
   apply aC
   repeat apply aA
   refine aL ?_
   repeat (first|refine aH ?_|refine aE ?_|refine aD ?_)
   refine aM ?_
   refine fp ?_
   simp only [dT.at,cL.ok.injEq,G.p.injEq,P.int.injEq,true_and,and_true]
   first
   |(rw [hi,fC hx];simp_all;done)
   |(rw [hi,List.drop_eq_nil_of_le (by omega)];rfl)
  replace hb2:=hB.h {} hb2
  repeat apply aA
  refine aQ ?_
  refine cl [0,1,7,8] ?_
  repeat apply aA
  apply aB
  refine v1 (hc:=aLI.h {}) ?_
  refine v0 ?_
  apply aC
  refine dN [0,1,7,8] (h:=?_) (hV:=?_) (n':=l.length - (k+1))
  ·omega
  exact ⟨k+1,by omega,by rw [hi,fC hx];simp_all,rfl,rfl⟩
 replace hb1:=hB.h {} hb1
 repeat apply aA
 refine bY ?_
 repeat (first|refine bI ?_|refine aY ?_|refine bC ?_|refine bJ rfl ?_)
 refine cl [] ?_
 repeat apply aA
 apply aB
 refine v0 ?_
 apply aC
 repeat apply aA
 refine aL ?_
 repeat (first|refine aH ?_|refine aE ?_|refine aD ?_)
 refine aM ?_
 refine fp ?_
 simp only [dT.at,cL.ok.injEq,G.p.injEq,P.int.injEq,true_and,and_true]
 first
 |(rw [hi,fC hx];simp_all;done)
 |(rw [hi,List.drop_eq_nil_of_le (by omega)];rfl)
theorem aN0:aJ Tryz.prog 143:=aJ.mk Tryz.func143 (by kernel_rfl) rfl
theorem aN1 (l:List (Stg)) (hl:l.length≤1048576) (m:Msr) (hq:1≤m.im∧m.im≤6) (he:m.er.length≤40):Gh.bD E 143 [.p (.list (l.map fK)),.fn (.func 141) [] [.ptr [.p (.list (m.er.map pSp)),.p (.int .i64 m.ey.1),.p (.int .i64 m.ey.2),.p (.int .i64 m.im),.p (.int .i64 m.su.1),.p (.int .i64 m.su.2),.p (.list (m.se.map fK))],.ptr [.p (.int .i64 (m.er.length:Nat))]]] (aG []) A (fun y=>y = .ok (.p (.bool (l.any (sZ m.im m.er.length)))) (aG []) A):=by
 refine spX 9 Tryz.func143 rfl ?_
 intro C hN hL
 simp only [Gh.num,List.map_cons,List.map_nil,Nat.reduceAdd]
 repeat apply aA
 apply aB
 refine v0 ?_
 apply aC
 refine cl [0,1] ?_
 repeat apply aA
 apply aB
 iterate 2 refine v0 ?_
 refine oc0 [] [] [0,0] none (spec:=aNZ l hl m hq he) (hent:=aNY) ?_
 iterate 2 refine v0 ?_
 apply aC
 repeat apply aA
 refine aL ?_
 repeat (first|refine aH ?_|refine aE ?_|refine aD ?_)
 refine aM ?_
 refine fp ?_
 rw [←nQ (sZ m.im m.er.length) l 0]
theorem aJP:aJ Tryz.prog 102:=aJ.mk Tryz.func102 (by kernel_rfl) rfl
theorem aGC (m:Msr) (h1:m.er.length≤1048576) (h2:m.se.length≤1048576):Gh.bD E 102 [.p (gE m)] (aG []) A (fun y=>y = .ok (.p (.bool m.valid)) (aG []) A):=by
 refine spX 54 Tryz.func102 rfl ?_
 intro C hN hL
 simp only [Gh.num,List.map_cons,List.map_nil,Nat.reduceAdd]
 unfold gE
 have hpsp:∀s:Int×Int,pSp s = .agg [.int .i64 s.1,.int .i64 s.2]:=fun _=>rfl
 have hpsg:∀s:Stg,fK s = .agg [.int .i64 s.im,.int .i64 s.rd,.bool s.rv]:=fun _=>rfl
 repeat apply aA
 apply aB
 refine n1 110 false (hc:=aEy.h {}) ?_
 refine v0 ?_
 apply aC
 refine cl [1] ?_
 repeat apply aA
 apply aB
 refine v0 ?_
 apply aC
 refine cl [1,3] ?_
 repeat apply aA
 apply aB
 iterate 4 refine v0 ?_
 refine n1 140 false (hc:=aEy.h {}) ?_
 refine s1 (hc:=aEy.h {}) ?_
 apply aC
 refine cl [1,3,4] ?_
 repeat apply aA
 refine fz 110 7 [.k,.k,.k,.k,.k,.k,.k] ?_
 refine fz 140 1 [.k] ?_
 apply aB
 iterate 2 refine v0 ?_
 apply aC
 refine cl [1,3,4,5] ?_
 repeat apply aA
 refine cv 5 (.f [.n [.k,.k,.k,.k,.k,.k,.k],.n [.k]]) ?_
 apply aB
 refine v0 ?_
 refine pc0 (spec:=gB _ _ _) (hent:=mZ) ?_
 refine v0 ?_
 refine b0 (k1:=fun hb1=>?_) (k0:=fun hb1=>?_)
 ·replace hb1:=hB.h {} hb1
  iterate 4 refine w0 ?_
  refine pcw (spec:=aEz m.ey) (hent:=aJO) ?_
  refine w0 ?_
  iterate 2 refine v0 ?_
  refine b0 (k1:=fun hb2=>?_) (k0:=fun hb2=>?_)
  ·replace hb2:=hB.h {} hb2
   iterate 4 refine w0 ?_
   refine ocw [] [] [0,0] none (spec:=aNX m.er h1) (hent:=aNW) ?_
   refine w0 ?_
   iterate 2 refine v0 ?_
   apply aC
   refine cl [1,5,6] ?_
   repeat apply aA
   apply aB
   iterate 2 refine v0 ?_
   refine b0 (k1:=fun hb3=>?_) (k0:=fun hb3=>?_)
   ·replace hb3:=hB.h {} hb3
    iterate 2 refine w0 ?_
    refine pcw (spec:=gB _ _ _) (hent:=mZ) ?_
    iterate 2 refine v0 ?_
    refine b0 (k1:=fun hb4=>?_) (k0:=fun hb4=>?_)
    ·replace hb4:=hB.h {} hb4
     iterate 2 refine w0 ?_
     refine pcw (spec:=lC m.su.1 m.su.2 (0) (131072)) (hent:=tQ) ?_
     iterate 2 refine v0 ?_
     refine b0 (k1:=fun hb5=>?_) (k0:=fun hb5=>?_)
     ·replace hb5:=hB.h {} hb5
      iterate 4 refine w0 ?_
      iterate 2 refine v0 ?_
      refine b0 (k1:=fun hb6=>?_) (k0:=fun hb6=>?_)
      ·replace hb6:=hB.h {} hb6
       iterate 3 refine w0 ?_
       refine ocw [] [] [0,0] none (spec:=aN1 m.se h2 m (by omega) (by omega)) (hent:=aN0) ?_
       refine w0 ?_
       iterate 2 refine v0 ?_
       apply aC
       repeat apply aA
       refine aL ?_
       repeat (first|refine aH ?_|refine aE ?_|refine aD ?_)
       refine aM ?_
       refine fp ?_
       have hwe:fA m.ey = !spB (-100) 100 m.ey:=rfl
       simp only [Msr.valid,inB,spB] at *
       generalize m.er.any fA=u at *
       generalize m.se.any (sZ m.im m.er.length)=v at *
       simp_all
       all_goals (first|(intros;omega)|(intros;exfalso;omega))
      replace hb6:=hB.h {} hb6
      iterate 5 refine x0 ?_
      iterate 2 refine v0 ?_
      apply aC
      repeat apply aA
      refine aL ?_
      repeat (first|refine aH ?_|refine aE ?_|refine aD ?_)
      refine aM ?_
      refine fp ?_
      have hwe:fA m.ey = !spB (-100) 100 m.ey:=rfl
      simp only [Msr.valid,inB,spB] at *
      generalize m.er.any fA=u at *
      generalize m.se.any (sZ m.im m.er.length)=v at *
      simp_all
      all_goals (first|(intros;omega)|(intros;exfalso;omega))
     replace hb5:=hB.h {} hb5
     iterate 4 refine x0 ?_
     iterate 2 refine v0 ?_
     iterate 5 refine x0 ?_
     iterate 2 refine v0 ?_
     apply aC
     repeat apply aA
     refine aL ?_
     repeat (first|refine aH ?_|refine aE ?_|refine aD ?_)
     refine aM ?_
     refine fp ?_
     have hwe:fA m.ey = !spB (-100) 100 m.ey:=rfl
     simp only [Msr.valid,inB,spB] at *
     generalize m.er.any fA=u at *
     generalize m.se.any (sZ m.im m.er.length)=v at *
     simp_all
     all_goals (first|(intros;omega)|(intros;exfalso;omega))
    replace hb4:=hB.h {} hb4
    iterate 3 refine x0 ?_
    iterate 2 refine v0 ?_
    iterate 4 refine x0 ?_
    iterate 2 refine v0 ?_
    iterate 5 refine x0 ?_
    iterate 2 refine v0 ?_
    apply aC
    repeat apply aA
    refine aL ?_
    repeat (first|refine aH ?_|refine aE ?_|refine aD ?_)
    refine aM ?_
    refine fp ?_
    have hwe:fA m.ey = !spB (-100) 100 m.ey:=rfl
    simp only [Msr.valid,inB,spB] at *
    generalize m.er.any fA=u at *
    generalize m.se.any (sZ m.im m.er.length)=v at *
    simp_all
    all_goals (first|(intros;omega)|(intros;exfalso;omega))
   replace hb3:=hB.h {} hb3
   iterate 3 refine x0 ?_
   iterate 2 refine v0 ?_
   iterate 3 refine x0 ?_
   iterate 2 refine v0 ?_
   iterate 4 refine x0 ?_
   iterate 2 refine v0 ?_
   iterate 5 refine x0 ?_
   iterate 2 refine v0 ?_
   apply aC
   repeat apply aA
   refine aL ?_
   repeat (first|refine aH ?_|refine aE ?_|refine aD ?_)
   refine aM ?_
   refine fp ?_
   have hwe:fA m.ey = !spB (-100) 100 m.ey:=rfl
   simp only [Msr.valid,inB,spB] at *
   generalize m.er.any fA=u at *
   generalize m.se.any (sZ m.im m.er.length)=v at *
   simp_all
   all_goals (first|(intros;omega)|(intros;exfalso;omega))
  replace hb2:=hB.h {} hb2
  iterate 6 refine x0 ?_
  iterate 2 refine v0 ?_
  apply aC
  refine cl [1,5,6] ?_
  repeat apply aA
  apply aB
  iterate 2 refine v0 ?_
  iterate 3 refine x0 ?_
  iterate 2 refine v0 ?_
  iterate 3 refine x0 ?_
  iterate 2 refine v0 ?_
  iterate 4 refine x0 ?_
  iterate 2 refine v0 ?_
  iterate 5 refine x0 ?_
  iterate 2 refine v0 ?_
  apply aC
  repeat apply aA
  refine aL ?_
  repeat (first|refine aH ?_|refine aE ?_|refine aD ?_)
  refine aM ?_
  refine fp ?_
  have hwe:fA m.ey = !spB (-100) 100 m.ey:=rfl
  simp only [Msr.valid,inB,spB] at *
  generalize m.er.any fA=u at *
  generalize m.se.any (sZ m.im m.er.length)=v at *
  simp_all
  all_goals (first|(intros;omega)|(intros;exfalso;omega))
 replace hb1:=hB.h {} hb1
 iterate 6 refine x0 ?_
 iterate 2 refine v0 ?_
 iterate 6 refine x0 ?_
 iterate 2 refine v0 ?_
 apply aC
 refine cl [1,5,6] ?_
 repeat apply aA
 apply aB
 iterate 2 refine v0 ?_
 iterate 3 refine x0 ?_
 iterate 2 refine v0 ?_
 iterate 3 refine x0 ?_
 iterate 2 refine v0 ?_
 iterate 4 refine x0 ?_
 iterate 2 refine v0 ?_
 iterate 5 refine x0 ?_
 iterate 2 refine v0 ?_
 apply aC
 repeat apply aA
 refine aL ?_
 repeat (first|refine aH ?_|refine aE ?_|refine aD ?_)
 refine aM ?_
 refine fp ?_
 have hwe:fA m.ey = !spB (-100) 100 m.ey:=rfl
 simp only [Msr.valid,inB,spB] at *
 generalize m.er.any fA=u at *
 generalize m.se.any (sZ m.im m.er.length)=v at *
 simp_all
 all_goals (first|(intros;omega)|(intros;exfalso;omega))
end
section
open Go.Gh
variable {E:Env Tryz.prog} {A:E.α}
structure vV (c:Prop):Prop where
 h:c:=by (first|exact True.intro|omega|(simp only [inI];omega)|(simp [P.size,bU,bG,bR,bB,cS,good,G.one,P.one,P.cells]<;>first|omega|assumption|simp_all))
theorem tR {lo hi:Int} {s:Int×Int} (h:spB lo hi s=true) (h1 : -1000000000≤lo) (h2:hi≤1000000000):(Pt.sp s.1 s.2).ok:=by
 simp only [spB,Bool.and_eq_true,decide_eq_true_eq] at h
 simp only [Pt.ok,oK];omega
theorem rE {lo hi n:Int} (h:inB lo hi n=true) (h1 : -1000000000≤lo) (h2:hi≤1000000000):(Pt.n n).ok:=by
 simp only [inB,Bool.and_eq_true,decide_eq_true_eq] at h
 simp only [Pt.ok,oK];omega
theorem aB2 {s:Str} (h:s.length≤100):(Pt.w s).ok:=h
theorem jY {α:Type} {l:List α} {q:α→Bool} (h:(!l.any q)=true) {x:α} (hx:x∈l):q x=false:=by
 cases e:q x with
 |false=>rfl
 |true=>rw [List.any_eq_true.2 ⟨x,hx,e⟩] at h;cases h
theorem aO2 {a b:Pt} (ha:a.ok) (hb:b.ok):∀p∈[a,b],p.ok:=by simp only [List.mem_cons,List.not_mem_nil,or_false];rintro p (rfl|rfl)<;>assumption
theorem aN2 {a b c:Pt} (ha:a.ok) (hb:b.ok) (hc:c.ok):∀p∈[a,b,c],p.ok:=by simp only [List.mem_cons,List.not_mem_nil,or_false];rintro p (rfl|rfl|rfl)<;>assumption
theorem aN3 {a b c d:Pt} (ha:a.ok) (hb:b.ok) (hc:c.ok) (hd:d.ok):∀p∈[a,b,c,d],p.ok:=by simp only [List.mem_cons,List.not_mem_nil,or_false];rintro p (rfl|rfl|rfl|rfl)<;>assumption
theorem aPI {a b c d e f:Pt} (ha:a.ok) (hb:b.ok) (hc:c.ok) (hd:d.ok) (he:e.ok) (hf:f.ok):∀p∈[a,b,c,d,e,f],p.ok:=by simp only [List.mem_cons,List.not_mem_nil,or_false];rintro p (rfl|rfl|rfl|rfl|rfl|rfl)<;>assumption
theorem aLJ {s:nB} (h:fD s=false):(∀p∈oM s,p.ok)∧0<(oM s).length∧(oM s).length≤10:=by
 simp only [fD,Bool.or_eq_false_iff,Bool.not_eq_false'] at h
 obtain ⟨⟨h1,h2⟩,h3⟩:=h
 have hx:=tR h1 (by omega) (by omega)
 have hy:=tR h2 (by omega) (by omega)
 simp only [jX,Bool.or_eq_true,Bool.and_eq_true] at h3
 unfold oM
 split
 ·rename_i hk
  rcases h3 with ⟨⟨_,h4⟩,h5⟩|⟨⟨h4,_⟩,_⟩
  ·exact ⟨aPI (aB2 (by decide)) hx hy (aB2 (by decide)) (tR h4 (by omega) (by omega)) (tR h5 (by omega) (by omega)),by simp,by simp⟩
  rw [hk] at h4;cases h4
 exact ⟨aN2 (aB2 (by decide)) hx hy,by simp,by simp⟩
theorem aJQ {p:Plt} (h:p.valid=true):okL (hQ p)∧p.st.length≤10:=by
 simp only [Plt.valid,Bool.and_eq_true,decide_eq_true_eq] at h
 obtain ⟨⟨h1,h2⟩,h3⟩:=h
 refine ⟨fun l hl=>?_,by omega⟩
 rcases List.mem_cons.1 hl with rfl|hl
 ·exact ⟨aO2 (aB2 (by decide)) (tR h1 (by omega) (by omega)),by simp [aAl],by simp [aAl]⟩
 obtain ⟨s,hs,rfl⟩:=List.mem_map.1 hl
 exact aLJ (jY h3 hs)
theorem aMf {ps:Int} {k:Int×Int} (h:oQ ps k=false) (hp:ps≤8):(Pt.n k.1).ok∧(Pt.n k.2).ok:=by
 simp only [oQ,Bool.not_eq_false',Bool.and_eq_true] at h
 exact ⟨rE h.1.2 (by omega) (by omega),rE h.2 (by omega) (by omega)⟩
theorem aJR {c:Chn} (h:c.valid=true):okL (gQ c)∧c.kn.length≤28∧c.rs.length≤12:=by
 simp only [Chn.valid,Bool.and_eq_true,decide_eq_true_eq] at h
 obtain ⟨⟨⟨⟨⟨⟨h1,h2⟩,h3⟩,h4⟩,h5⟩,h6⟩,h7⟩:=h
 have hps:c.ps≤8:=by simp only [inB,Bool.and_eq_true,decide_eq_true_eq] at h2;omega
 have hpl:c.pl≤4:=by simp only [inB,Bool.and_eq_true,decide_eq_true_eq] at h1;omega
 refine ⟨fun l hl=>?_,by omega,by omega⟩
 rcases List.mem_cons.1 hl with rfl|hl
 ·exact ⟨aN3 (aB2 (by decide)) (rE h1 (by omega) (by omega)) (rE h2 (by omega) (by omega)) (rE h3 (by omega) (by omega)),by simp [aAm],by simp [aAm]⟩
 rcases List.mem_append.1 hl with hl|hl
 ·obtain ⟨s,hs,rfl⟩:=List.mem_map.1 hl
  have:=aMf (jY h6 hs) hps
  exact ⟨aN2 (aB2 (by decide)) this.1 this.2,by simp [knL],by simp [knL]⟩
 obtain ⟨s,hs,rfl⟩:=List.mem_map.1 hl
 have h8:=jY h7 hs
 simp only [rD,Bool.or_eq_false_iff,Bool.not_eq_false'] at h8
 have:=aMf h8.1 hps
 exact ⟨aN3 (aB2 (by decide)) (rE h8.2 (by omega) (by omega)) this.1 this.2,by simp [rcL],by simp [rcL]⟩
theorem aJS {m:Msr} (h:m.valid=true):okL (gL m)∧m.er.length≤40∧m.se.length≤12:=by
 simp only [Msr.valid,Bool.and_eq_true,decide_eq_true_eq] at h
 obtain ⟨⟨⟨⟨⟨⟨h1,h2⟩,h3⟩,h4⟩,h5⟩,h6⟩,h7⟩:=h
 have hn:m.er.length≤40:=by simp only [inB,Bool.and_eq_true,decide_eq_true_eq] at h1;omega
 have him:m.im≤6:=by simp only [inB,Bool.and_eq_true,decide_eq_true_eq] at h4;omega
 refine ⟨fun l hl=>?_,hn,by omega⟩
 rcases List.mem_cons.1 hl with rfl|hl
 ·exact ⟨aN3 (aB2 (by decide)) (rE h4 (by omega) (by omega)) (tR h5 (by omega) (by omega)) (tR h2 (by omega) (by omega)),by simp [aAn],by simp [aAn]⟩
 rcases List.mem_append.1 hl with hl|hl
 ·obtain ⟨s,hs,rfl⟩:=List.mem_map.1 hl
  have h8:=jY h3 hs
  simp only [fA,Bool.not_eq_false'] at h8
  exact ⟨aO2 (aB2 (by decide)) (tR h8 (by omega) (by omega)),by simp [erL],by simp [erL]⟩
 obtain ⟨s,hs,rfl⟩:=List.mem_map.1 hl
 have h8:=jY h7 hs
 simp only [sZ,Bool.or_eq_false_iff,Bool.not_eq_false'] at h8
 exact ⟨aN2 (aB2 (by unfold aLD;split<;>decide)) (rE h8.1 (by omega) (by omega)) (rE h8.2 (by omega) (by omega)),by simp [seL],by simp [seL]⟩
theorem yT {ls:List (List Pt)} {l:List Pt}:txt (l::ls)≠[]:=by simp [txt,fM]
theorem aJT:aJ Tryz.prog 94:=aJ.mk Tryz.func94 (by kernel_rfl) rfl
theorem aEA:aJ Tryz.prog 57:=aJ.mk Tryz.func57 (by kernel_rfl) rfl
theorem rF (b:Plt) (hv:b.valid=true) (es:List (P×P)):Gh.bD E 57 [.p (gC b),.agg [.p (.fn (.func 112) [] []),.map 0,.p (.fn (.func 115) [] [])]] (aG [(0,.map es)]) A (fun y=>y = .ok (.p (.tuple [.str (txt (hQ b)),.int .i64 0])) (aG [(0,.map es)]) A):=by
 refine spX 18 Tryz.func57 rfl ?_
 intro C hN hL
 simp only [Gh.num,List.map_cons,List.map_nil,Nat.reduceAdd]
 have hpne:txt (hQ b)≠[]:=yT
 have hlen:=(aJQ hv).2
 unfold gC
 repeat apply aA
 apply aB
 refine n1 120 false (hc:=vV.h {}) ?_
 refine n1 130 false (hc:=vV.h {}) ?_
 iterate 2 refine v0 ?_
 apply aC
 refine cl [2,3] ?_
 repeat apply aA
 apply aB
 iterate 3 refine v0 ?_
 refine oc0 [] [] [0] none (spec:=aCy b (by omega)) (hent:=aJL) ?_
 refine rb 10 true (h:=by (exact hv)) ?_
 refine v0 ?_
 apply aC
 repeat apply aA
 refine cF ?_
 repeat apply aA
 refine aQ ?_
 refine cl [2,3] ?_
 repeat apply aA
 apply aB
 refine n1 160 true (hc:=vV.h {}) ?_
 apply aC
 refine cl [2,3,6] ?_
 repeat apply aA
 apply aB
 iterate 3 refine v0 ?_
 refine oc0 [(0,160),(3000,3000)] [] [0,0] none (spec:=aFB b (aJQ hv).1 (by omega)) (hent:=aNs) ?_
 apply aC
 refine cl [3,6] ?_
 repeat apply aA
 apply aB
 refine v0 ?_
 refine oc0 [(0,160),(1,3000)] [] [0] none (spec:=aBk (txt (hQ b)) hpne) (hent:=aJT) ?_
 iterate 2 refine v0 ?_
 apply aC
 repeat apply aA
 refine aL ?_
 repeat (first|refine aH ?_|refine aE ?_|refine aD ?_)
 refine aM ?_
 refine fh2 [0] ?_
 rfl
theorem xA (b:Plt) (hv:b.valid=false) (hl:b.st.length≤1048576) (es:List (P×P)):Gh.bD E 57 [.p (gC b),.agg [.p (.fn (.func 112) [] []),.map 0,.p (.fn (.func 115) [] [])]] (aG [(0,.map es)]) A (fun y=>y = .ok (.p (.tuple [.str [],.int .i64 1])) (aG [(0,.map es)]) A):=by
 refine spX 18 Tryz.func57 rfl ?_
 intro C hN hL
 simp only [Gh.num,List.map_cons,List.map_nil,Nat.reduceAdd]
 have hpne:txt (hQ b)≠[]:=yT
 unfold gC
 repeat apply aA
 apply aB
 refine n1 120 false (hc:=vV.h {}) ?_
 refine n1 130 false (hc:=vV.h {}) ?_
 iterate 2 refine v0 ?_
 apply aC
 refine cl [2,3] ?_
 repeat apply aA
 apply aB
 iterate 3 refine v0 ?_
 refine oc0 [] [] [0] none (spec:=aCy b (by omega)) (hent:=aJL) ?_
 refine rb 10 false (h:=by (exact hv)) ?_
 refine v0 ?_
 apply aC
 repeat apply aA
 refine cT ?_
 repeat apply aA
 apply aB
 iterate 2 refine v0 ?_
 apply aC
 repeat apply aA
 refine aL ?_
 repeat (first|refine aH ?_|refine aE ?_|refine aD ?_)
 refine aM ?_
 refine fh2 [0] ?_
 rfl
theorem aEB:aJ Tryz.prog 62:=aJ.mk Tryz.func62 (by kernel_rfl) rfl
theorem rG (b:Chn) (hv:b.valid=true) (es:List (P×P)):Gh.bD E 62 [.p (gD b),.agg [.p (.fn (.func 120) [] []),.map 0,.p (.fn (.func 124) [] [])]] (aG [(0,.map es)]) A (fun y=>y = .ok (.p (.tuple [.str (txt (gQ b)),.int .i64 0])) (aG [(0,.map es)]) A):=by
 refine spX 18 Tryz.func62 rfl ?_
 intro C hN hL
 simp only [Gh.num,List.map_cons,List.map_nil,Nat.reduceAdd]
 have hpne:txt (gQ b)≠[]:=yT
 have hlen:=(aJR hv).2
 unfold gD
 repeat apply aA
 apply aB
 refine n1 120 false (hc:=vV.h {}) ?_
 refine n1 130 false (hc:=vV.h {}) ?_
 iterate 2 refine v0 ?_
 apply aC
 refine cl [2,3] ?_
 repeat apply aA
 apply aB
 iterate 3 refine v0 ?_
 refine oc0 [] [] [0] none (spec:=aCz b (by omega) (by omega)) (hent:=aJN) ?_
 refine rb 10 true (h:=by (exact hv)) ?_
 refine v0 ?_
 apply aC
 repeat apply aA
 refine cF ?_
 repeat apply aA
 refine aQ ?_
 refine cl [2,3] ?_
 repeat apply aA
 apply aB
 refine n1 160 true (hc:=vV.h {}) ?_
 apply aC
 refine cl [2,3,6] ?_
 repeat apply aA
 apply aB
 iterate 3 refine v0 ?_
 refine oc0 [(0,160),(3000,3000)] [] [0,0] none (spec:=aFC b (aJR hv).1 (by omega) (by omega)) (hent:=aNt) ?_
 apply aC
 refine cl [3,6] ?_
 repeat apply aA
 apply aB
 refine v0 ?_
 refine oc0 [(0,160),(1,3000)] [] [0] none (spec:=aBk (txt (gQ b)) hpne) (hent:=aJT) ?_
 iterate 2 refine v0 ?_
 apply aC
 repeat apply aA
 refine aL ?_
 repeat (first|refine aH ?_|refine aE ?_|refine aD ?_)
 refine aM ?_
 refine fh2 [0] ?_
 rfl
theorem xB (b:Chn) (hv:b.valid=false) (hl:b.kn.length≤1048576) (hl2:b.rs.length≤1048576) (es:List (P×P)):Gh.bD E 62 [.p (gD b),.agg [.p (.fn (.func 120) [] []),.map 0,.p (.fn (.func 124) [] [])]] (aG [(0,.map es)]) A (fun y=>y = .ok (.p (.tuple [.str [],.int .i64 1])) (aG [(0,.map es)]) A):=by
 refine spX 18 Tryz.func62 rfl ?_
 intro C hN hL
 simp only [Gh.num,List.map_cons,List.map_nil,Nat.reduceAdd]
 have hpne:txt (gQ b)≠[]:=yT
 unfold gD
 repeat apply aA
 apply aB
 refine n1 120 false (hc:=vV.h {}) ?_
 refine n1 130 false (hc:=vV.h {}) ?_
 iterate 2 refine v0 ?_
 apply aC
 refine cl [2,3] ?_
 repeat apply aA
 apply aB
 iterate 3 refine v0 ?_
 refine oc0 [] [] [0] none (spec:=aCz b (by omega) (by omega)) (hent:=aJN) ?_
 refine rb 10 false (h:=by (exact hv)) ?_
 refine v0 ?_
 apply aC
 repeat apply aA
 refine cT ?_
 repeat apply aA
 apply aB
 iterate 2 refine v0 ?_
 apply aC
 repeat apply aA
 refine aL ?_
 repeat (first|refine aH ?_|refine aE ?_|refine aD ?_)
 refine aM ?_
 refine fh2 [0] ?_
 rfl
theorem aEC:aJ Tryz.prog 49:=aJ.mk Tryz.func49 (by kernel_rfl) rfl
theorem rH (b:Msr) (hv:b.valid=true) (es:List (P×P)):Gh.bD E 49 [.p (gE b),.agg [.p (.fn (.func 95) [] []),.map 0,.p (.fn (.func 102) [] [])]] (aG [(0,.map es)]) A (fun y=>y = .ok (.p (.tuple [.str (txt (gL b)),.int .i64 0])) (aG [(0,.map es)]) A):=by
 refine spX 18 Tryz.func49 rfl ?_
 intro C hN hL
 simp only [Gh.num,List.map_cons,List.map_nil,Nat.reduceAdd]
 have hpne:txt (gL b)≠[]:=yT
 have hlen:=(aJS hv).2
 unfold gE
 repeat apply aA
 apply aB
 refine n1 120 false (hc:=vV.h {}) ?_
 refine n1 130 false (hc:=vV.h {}) ?_
 iterate 2 refine v0 ?_
 apply aC
 refine cl [2,3] ?_
 repeat apply aA
 apply aB
 iterate 3 refine v0 ?_
 refine oc0 [] [] [0] none (spec:=aGC b (by omega) (by omega)) (hent:=aJP) ?_
 refine rb 10 true (h:=by (exact hv)) ?_
 refine v0 ?_
 apply aC
 repeat apply aA
 refine cF ?_
 repeat apply aA
 refine aQ ?_
 refine cl [2,3] ?_
 repeat apply aA
 apply aB
 refine n1 160 true (hc:=vV.h {}) ?_
 apply aC
 refine cl [2,3,6] ?_
 repeat apply aA
 apply aB
 iterate 3 refine v0 ?_
 refine oc0 [(0,160),(3000,3000)] [] [0,0] none (spec:=aFE b (aJS hv).1 (by omega) (by omega)) (hent:=aOU) ?_
 apply aC
 refine cl [3,6] ?_
 repeat apply aA
 apply aB
 refine v0 ?_
 refine oc0 [(0,160),(1,3000)] [] [0] none (spec:=aBk (txt (gL b)) hpne) (hent:=aJT) ?_
 iterate 2 refine v0 ?_
 apply aC
 repeat apply aA
 refine aL ?_
 repeat (first|refine aH ?_|refine aE ?_|refine aD ?_)
 refine aM ?_
 refine fh2 [0] ?_
 rfl
theorem xC (b:Msr) (hv:b.valid=false) (hl:b.er.length≤1048576) (hl2:b.se.length≤1048576) (es:List (P×P)):Gh.bD E 49 [.p (gE b),.agg [.p (.fn (.func 95) [] []),.map 0,.p (.fn (.func 102) [] [])]] (aG [(0,.map es)]) A (fun y=>y = .ok (.p (.tuple [.str [],.int .i64 1])) (aG [(0,.map es)]) A):=by
 refine spX 18 Tryz.func49 rfl ?_
 intro C hN hL
 simp only [Gh.num,List.map_cons,List.map_nil,Nat.reduceAdd]
 have hpne:txt (gL b)≠[]:=yT
 unfold gE
 repeat apply aA
 apply aB
 refine n1 120 false (hc:=vV.h {}) ?_
 refine n1 130 false (hc:=vV.h {}) ?_
 iterate 2 refine v0 ?_
 apply aC
 refine cl [2,3] ?_
 repeat apply aA
 apply aB
 iterate 3 refine v0 ?_
 refine oc0 [] [] [0] none (spec:=aGC b (by omega) (by omega)) (hent:=aJP) ?_
 refine rb 10 false (h:=by (exact hv)) ?_
 refine v0 ?_
 apply aC
 repeat apply aA
 refine cT ?_
 repeat apply aA
 apply aB
 iterate 2 refine v0 ?_
 apply aC
 repeat apply aA
 refine aL ?_
 repeat (first|refine aH ?_|refine aE ?_|refine aD ?_)
 refine aM ?_
 refine fh2 [0] ?_
 rfl
end
section
open Go.Gh
theorem zV:∀(l r:List UInt8) (acc:Nat),Lib.decFrom acc (l++r)=(Lib.decFrom acc l).bind fun n=>Lib.decFrom n r
 |[],_,_=>rfl
 |b::l,r,acc=>by
  simp only [List.cons_append,Lib.decFrom]
  cases Lib.digitVal b with
  |none=>rfl
  |some d=>exact zV l r _
theorem yU {d:Nat} (h:d<10):(UInt8.ofNat (48+d)).toNat=48+d:=by
 rw [UInt8.toNat_ofNat'];omega
theorem aED {d:Nat} (h:d<10):Lib.digitVal (UInt8.ofNat (48+d))=some d:=by
 unfold Lib.digitVal
 rw [yU h,if_pos (by omega)]
 congr 1
 omega
theorem aEE (u:Nat):Lib.decFrom 0 (Lib.decDigits u)=some u:=by
 induction u using Nat.strongRecOn with
 |_ u ih=>
  rw [Lib.decDigits]
  split
  ·rename_i h
   show (match Lib.digitVal (UInt8.ofNat (48+u)) with|some d=>Lib.decFrom (0*10+d) []|none=>none)=some u
   rw [aED h]
   simp [Lib.decFrom]
  rw [zV,ih (u / 10) (by omega)]
  simp only [Option.bind_some,Lib.decFrom,aED (show u%10<10 by omega)]
  congr 1
  omega
theorem aDq (u:Nat):∀b∈Lib.decDigits u,48≤b.toNat∧b.toNat≤57:=by
 induction u using Nat.strongRecOn with
 |_ u ih=>
  rw [Lib.decDigits]
  split
  ·rename_i h
   intro b hb
   rw [List.mem_singleton] at hb
   subst hb
   rw [yU h]
   omega
  intro b hb
  rcases List.mem_append.1 hb with hb|hb
  ·exact ih (u / 10) (by omega) b hb
  rw [List.mem_singleton] at hb
  subst hb
  rw [yU (by omega)]
  omega
theorem aJU (u:Nat):Lib.decDigits u≠[]:=fun h=>by
 have:=Lib.decDigits_length u
 rw [h] at this
 have:=Lib.nDigits_pos u
 simp at *
 omega
theorem aBo (u:Nat):Lib.decNat (Lib.decDigits u)=some u:=by
 unfold Lib.decNat
 rw [if_neg (by simpa using aJU u),aEE]
theorem aHK (n:Int):Lib.atoi (Lib.itoa n)=some n:=by
 unfold Lib.itoa
 split
 ·simp only [Lib.atoi,BEq.rfl,if_true,aBo,Option.map_some]
  congr 1
  omega
 have hd:=aDq n.toNat
 have hn:=aBo n.toNat
 cases e:Lib.decDigits n.toNat with
 |nil=>exact absurd e (aJU _)
 |cons b r=>
  rw [e] at hd hn
  have hb:=hd b (List.mem_cons_self ..)
  have h1:(b==45)=false:=by
   cases h:b==45 with
   |false=>rfl
   |true=>rw [beq_iff_eq] at h;subst h;simp at hb
  have h2:(b==43)=false:=by
   cases h:b==43 with
   |false=>rfl
   |true=>rw [beq_iff_eq] at h;subst h;simp at hb
  simp only [Lib.atoi,h1,h2,Bool.false_eq_true,if_false,hn,Option.map_some]
  congr 1
  omega
theorem aGD:∀(k u:Nat),u<10^(k+1)→Lib.nDigits u≤k+1
 |0,u,h=>by rw [Lib.nDigits_small (by simpa using h)];omega
 |k+1,u,h=>by
  by_cases h0:u<10
  ·rw [Lib.nDigits_small h0];omega
  rw [Lib.nDigits_big h0]
  have:=aGD k (u / 10) (by rw [Nat.pow_succ] at h;omega)
  omega
def okS (n:Int):Prop:=-1000000000≤n∧n≤1000000000
theorem rI {n:Int} (h:okS n):(Lib.itoa n).length≤11:=by
 have hd:∀u:Nat,u≤1000000000→Lib.nDigits u≤10:=fun u hu=>aGD 9 u (by omega)
 obtain ⟨h1,h2⟩:=h
 unfold Lib.itoa
 split
 ·rw [List.length_cons,Lib.decDigits_length];have:=hd n.natAbs (by omega);omega
 rw [Lib.decDigits_length];have:=hd n.toNat (by omega);omega
theorem yV {n:Int} (h:okS n):jI (Lib.itoa n)=(n,true):=by
 have:=rI h
 unfold jI
 rw [Lib.atoiAll_short _ (by omega),aHK]
 rfl
theorem aFH (n:Int):∀b∈Lib.itoa n,b.toNat=45∨48≤b.toNat:=by
 unfold Lib.itoa
 split
 ·intro b hb
  rcases List.mem_cons.1 hb with rfl|hb
  ·exact .inl rfl
  exact .inr (aDq _ b hb).1
 intro b hb
 exact .inr (aDq _ b hb).1
theorem xD {n:Int} {c:UInt8} (h:c.toNat<45):c∉Lib.itoa n:=fun hc=>by
 have:=aFH n c hc
 omega
theorem aGE (c:UInt8):∀(l r:List UInt8),c∉l→Lib.index (l++c::r) [c]=l.length
 |[],r,_=>by simpa using tM c r
 |b::l,r,h=>by
  have hb:b≠c:=fun e=>h (by rw [e];exact List.mem_cons_self ..)
  rw [List.cons_append,tN b c _ hb,aGE c l r fun e=>h (List.mem_cons_of_mem _ e)]
  have e1:(((l.length:Nat):Int) == -1)=false:=by simp
  rw [e1]
  simp
theorem aLK (c:UInt8) (l r:List UInt8) (h:c∉l):Lib.cut (l++c::r) [c]=(l,r,true):=by
 unfold Lib.cut
 rw [aGE c l r h,if_pos (by omega)]
 simp
theorem iK {a b:Int} (ha:okS a) (hb:okS b) (xs:List Str):dD (ptT (.sp a b)::xs)=some (a,b):=by
 have hc:Lib.cut (ptT (.sp a b)) [44]=(Lib.itoa a,Lib.itoa b,true):=by
  rw [ptT,List.append_assoc]
  exact aLK 44 _ _ (xD (by decide))
 simp only [dD,hc,yV ha,yV hb,Bool.and_self,if_true]
theorem pU {a:Int} (ha:okS a) (xs:List Str):nA (ptT (.n a)::xs)=some a:=by
 simp only [nA,ptT,yV ha,if_true]
theorem aBp (c:UInt8):∀(l r:List UInt8),dF c (l++c::r)=dF c l++dF c r
 |[],r=>by simp [dF]
 |b::l,r=>by
  have ih:=aBp c l r
  rw [List.cons_append,dF,dF,ih]
  split
  ·rfl
  have:=yK c l
  cases e:dF c l with
  |nil=>exact absurd e this
  |cons p ps=>rfl
theorem vW (c:UInt8):∀(l:List UInt8),c∉l→dF c l=[l]
 |[],_=>rfl
 |b::l,h=>by
  have hb:b≠c:=fun e=>h (by rw [e];exact List.mem_cons_self ..)
  rw [dF,if_neg hb,vW c l fun e=>h (List.mem_cons_of_mem _ e)]
theorem zW:∀(l r:List UInt8),(10:UInt8)∉l→bT (l++10::r)=(l++[10])::bT r
 |[],r,_=>by simp [bT]
 |b::l,r,h=>by
  have hb:b≠10:=fun e=>h (by rw [e];exact List.mem_cons_self ..)
  rw [List.cons_append,bT,if_neg hb,zW l r fun e=>h (List.mem_cons_of_mem _ e)]
  rfl
def cln (p:Pt):Prop:=(10:UInt8)∉ptT p∧(32:UInt8)∉ptT p
theorem aO3 (n:Int):cln (.n n):=⟨xD (by decide),xD (by decide)⟩
theorem aN4 (a b:Int):cln (.sp a b):=by
 have h:∀c:UInt8,c.toNat<44→c∉ptT (.sp a b):=fun c hc hm=>by
  simp only [ptT,List.mem_append,List.mem_singleton] at hm
  rcases hm with (hm|hm)|hm
  ·exact xD (by omega) hm
  ·subst hm;simp at hc
  exact xD (by omega) hm
 exact ⟨h 10 (by decide),h 32 (by decide)⟩
theorem aEF {ps:List Pt} (h:∀p∈ps,cln p):∀k,k<ps.length→dF 32 (jn ps (k+1))=(ps.take (k+1)).map ptT
 |0,hk=>by
  obtain ⟨p,hp⟩:=fT hk
  have hc:=h p (List.mem_of_getElem? hp)
  cases ps with
  |nil=>simp at hk
  |cons q ps=>
   simp only [List.getElem?_cons_zero,Option.some.injEq] at hp
   subst hp
   simp only [jn,sep,Nat.lt_irrefl,if_false,List.nil_append,List.getElem?_cons_zero,List.take_succ_cons,List.take_zero,List.map_cons,List.map_nil]
   exact vW 32 _ hc.2
 |k+1,hk=>by
  obtain ⟨p,hp⟩:=fT hk
  have hc:=h p (List.mem_of_getElem? hp)
  have ih:=aEF h k (by omega)
  have e:jn ps (k+1+1)=jn ps (k+1)++32::ptT p:=by
   rw [jn,hp,qJ (by omega)]
   simp
  rw [e,aBp,ih,vW 32 _ hc.2,List.take_add_one (i:=k+1),hp]
  simp
theorem aMg {ps:List Pt} (h:∀p∈ps,cln p):∀k,(10:UInt8)∉jn ps k
 |0=>by simp [jn]
 |k+1=>by
  rw [jn]
  have h1:(10:UInt8)∉sep k:=by unfold sep;split<;>simp
  have h2:=aMg h k
  cases e:ps[k]? with
  |none=>simp [h1,h2]
  |some p=>simp [h1,h2,(h p (List.mem_of_getElem? e)).1]
theorem aHL (l:Str):Lib.trimSuffix (l++[10]) [10]=l:=by
 unfold Lib.trimSuffix Lib.hasSuffix
 rw [if_pos (by rw [List.isSuffixOf_iff_suffix];exact List.suffix_append ..)]
 simp
theorem aHM {ps:List Pt} (h:∀p∈ps,cln p) (h0:0<ps.length):hU (fM ps)=ps.map ptT:=by
 unfold hU fM
 rw [aHL]
 obtain ⟨k,hk⟩:∃k,ps.length=k+1:=⟨ps.length - 1,by omega⟩
 rw [hk,aEF h k (by omega),←hk,List.take_length]
theorem qM (l:List Pt) (ls:List (List Pt)):txt (l::ls)=fM l++txt ls:=by simp [txt]
theorem aCA:∀ {ls:List (List Pt)},(∀l∈ls,∀p∈l,cln p)→bT (txt ls)=ls.map fM
 |[],_=>rfl
 |l::ls,h=>by
  rw [qM,List.map_cons,←aCA (ls:=ls) fun x hx=>h x (List.mem_cons_of_mem _ hx)]
  unfold fM
  rw [List.append_assoc]
  exact zW _ _ (aMg (h l (List.mem_cons_self ..)) _)
theorem aGF:∀ {ls:List (List Pt)},ls≠[]→Lib.hasSuffix (txt ls) [10]=true
 |[],h=>absurd rfl h
 |[l],_=>by
  unfold Lib.hasSuffix
  rw [aLC,fM,List.isSuffixOf_iff_suffix]
  exact List.suffix_append ..
 |l::m::ls,_=>by
  have:=aGF (ls:=m::ls) (by simp)
  unfold Lib.hasSuffix at this ⊢
  rw [qM,List.isSuffixOf_iff_suffix]
  rw [List.isSuffixOf_iff_suffix] at this
  exact this.trans (List.suffix_append ..)
theorem aHN {p:Pt} (h:match p with|.w s=>s.length≤8|.n k=>okS k|.sp a b=>okS a∧okS b):(ptT p).length≤23:=by
 cases p with
 |w s=>simp only [ptT];simp only at h;omega
 |n k=>have:=rI h;simp only [ptT];omega
 |sp a b=>have:=rI h.1;have:=rI h.2;simp only [ptT,List.length_append,List.length_cons,List.length_nil];omega
theorem aDr (ln:Str):∃w r,hU ln=w::r:=by
 have:=yK 32 (Lib.trimSuffix ln [10])
 unfold hU
 cases e:dF 32 (Lib.trimSuffix ln [10]) with
 |nil=>exact absurd e this
 |cons w r=>exact ⟨w,r,rfl⟩
theorem aCB (c:UInt8):∀(l:List UInt8),∀x∈dF c l,x.length≤l.length
 |[],x,h=>by simp [dF] at h;subst h;simp
 |b::l,x,h=>by
  have ih:=aCB c l
  rw [dF] at h
  split at h
  ·rcases List.mem_cons.1 h with rfl|h
   ·simp
   have:=ih x h;rw [List.length_cons];omega
  cases e:dF c l with
  |nil=>exact absurd e (yK c l)
  |cons p ps=>
   rw [e] at h ih
   rcases List.mem_cons.1 h with rfl|h
   ·have:=ih p (List.mem_cons_self ..);simp only [List.length_cons];omega
   have:=ih x (List.mem_cons_of_mem _ h);rw [List.length_cons];omega
theorem vX {ln:Str} (h:ln.length≤10000):cG (hU ln):=fun x hx=>by
 have:=aCB 32 _ x hx
 have:=aBm ln [10]
 omega
end
section
open Go.Gh
def vD (xs:List Str):Option nB:=match dD xs with
 |none=>none
 |some x=>match dD xs.tail with
  |none=>none
  |some y=>match xs.tail.tail with
   |[]=>some ⟨x,y,false,(0,0),(0,0)⟩
   |k::r=>match dD r with
    |none=>none
    |some e=>match dD r.tail with
     |none=>none
     |some n=>some ⟨x,y,decide (k=[107,110,111,119,110]),e,n⟩
def hZ (p:Plt):List Str→Option Plt
 |[]=>none
 |w::r=>if w=[112,108,97,116,101] then (dD r).map fun s=>{ p with sc:=s } else if w=[115,116,97,114] then (vD r).map fun s=>{ p with st:=p.st++[s] } else none
def dI:List Str→Option (List Int)
 |[]=>some []
 |x::xs=>match nA (x::xs) with
  |none=>none
  |some n=>(dI xs).map fun l=>n::l
def eM (c:Chn):List Str→Option Chn
 |[]=>none
 |w::r=>if w=[99,104,97,105,110] then (match dI r with|some [a,b,d]=>some { c with pl:=a,ps:=b,ms:=d }|_=>none)
  else if w=[107,110,111,119,115] then (match dI r with|some [a,b]=>some { c with kn:=c.kn++[(a,b)] }|_=>none)
  else if w=[108,111,97,110] then (match dI r with|some [a,b,d]=>some { c with rs:=c.rs++[(a,b,d)] }|_=>none) else none
def xE (r:List Str):Option (Int×(Int×Int)×(Int×Int)):=match nA r with
 |none=>none
 |some n=>match dD r.tail with
  |none=>none
  |some s=>match dD r.tail.tail with
   |none=>none
   |some e=>some (n,s,e)
def xF (r:List Str) (rv:Bool):Option Stg:=match nA r with
 |none=>none
 |some n=>match nA r.tail with
  |none=>none
  |some k=>some ⟨n,k,rv⟩
def dR (m:Msr):List Str→Option Msr
 |[]=>none
 |w::r=>if w=[109,101,97,115,117,114,101] then (xE r).map fun h=>{ m with im:=h.1,su:=h.2.1,ey:=h.2.2 }
  else if w=[116,117,114,110] then (dD r).map fun e=>{ m with er:=m.er++[e] }
  else if w=[112,108,97,105,110] then (xF r false).map fun s=>{ m with se:=m.se++[s] }
  else if w=[114,101,118,101,114,115,101,100] then (xF r true).map fun s=>{ m with se:=m.se++[s] } else none
def run {α:Type} (step:α→List Str→Option α):List Str→α→Option α
 |[],x=>some x
 |l::ls,x=>match step x (hU l) with
  |none=>none
  |some y=>run step ls y
theorem iL {α:Type} {step:α→List Str→Option α}:∀ {ls:List Str} {k:Nat} {x z:α} {l:Str},run step (ls.take k) x=some z→ls[k]? = some l→run step (ls.take (k+1)) x=step z (hU l)
 |[],_,_,_,_,_,h=>by simp at h
 |l::ls,0,x,z,m,h,h2=>by
  simp only [List.take_zero,run,Option.some.injEq] at h
  simp only [List.getElem?_cons_zero,Option.some.injEq] at h2
  subst h h2
  simp only [List.take_succ_cons,List.take_zero,run]
  cases step x (hU l)<;>rfl
 |l::ls,k+1,x,z,m,h,h2=>by
  simp only [List.take_succ_cons,run] at h ⊢
  cases e:step x (hU l) with
  |none=>rw [e] at h;cases h
  |some y=>
   rw [e] at h
   simp only at h ⊢
   exact iL h (by simpa using h2)
theorem fS {α:Type} {step:α→List Str→Option α}:∀ {ls:List Str} {k:Nat} {x z:α} {l:Str},run step (ls.take k) x=some z→ls[k]? = some l→step z (hU l)=none→run step ls x=none
 |[],_,_,_,_,_,h,_=>by simp at h
 |l::ls,0,x,z,m,h,h2,h3=>by
  simp only [List.take_zero,run,Option.some.injEq] at h
  simp only [List.getElem?_cons_zero,Option.some.injEq] at h2
  subst h h2
  rw [run,h3]
 |l::ls,k+1,x,z,m,h,h2,h3=>by
  simp only [List.take_succ_cons,run] at h ⊢
  cases e:step x (hU l) with
  |none=>rfl
  |some y=>
   rw [e] at h
   simp only at h ⊢
   exact fS h (by simpa using h2) h3
theorem aDs {α:Type} {step:α→List Str→Option α}:∀ {ls rs:List Str} {x y:α},run step ls x=some y→run step (ls++rs) x=run step rs y
 |[],_,_,_,h=>by cases h;rfl
 |l::ls,rs,x,y,h=>by
  simp only [List.cons_append,run] at h ⊢
  cases e:step x (hU l) with
  |none=>rw [e] at h;cases h
  |some z=>rw [e] at h;exact aDs h
def dY {α:Type} (step:α→List Str→Option α) (z:α) (s:Str):Option α:=if Lib.hasSuffix s [10] then run step (bT s) z else none
def Plt.z:Plt:=⟨(0,0),[]⟩
def Chn.z:Chn:=⟨0,0,[],[],0⟩
def Msr.z:Msr:=⟨0,(0,0),(0,0),[],[]⟩
def pI (s:Str):Option Plt:=match dY hZ Plt.z s with
 |none=>none
 |some p=>if p.valid&&decide (txt (hQ p)=s) then some p else none
def pJ (s:Str):Option Chn:=match dY eM Chn.z s with
 |none=>none
 |some p=>if p.valid&&decide (txt (gQ p)=s) then some p else none
def pK (s:Str):Option Msr:=match dY dR Msr.z s with
 |none=>none
 |some p=>if p.valid&&decide (txt (gL p)=s) then some p else none
theorem aFI {s:Str} {p:Plt} (h:pI s=some p):p.valid=true∧txt (hQ p)=s:=by
 unfold pI at h
 split at h
 ·cases h
 split at h
 ·rename_i h2
  cases h
  simpa using h2
 cases h
theorem aFJ {s:Str} {p:Chn} (h:pJ s=some p):p.valid=true∧txt (gQ p)=s:=by
 unfold pJ at h
 split at h
 ·cases h
 split at h
 ·rename_i h2
  cases h
  simpa using h2
 cases h
theorem aFK {s:Str} {p:Msr} (h:pK s=some p):p.valid=true∧txt (gL p)=s:=by
 unfold pK at h
 split at h
 ·cases h
 split at h
 ·rename_i h2
  cases h
  simpa using h2
 cases h
theorem kP {lo hi:Int} {s:Int×Int} (h:spB lo hi s=true) (h1 : -1000000000≤lo) (h2:hi≤1000000000):okS s.1∧okS s.2:=by
 simp only [spB,Bool.and_eq_true,decide_eq_true_eq] at h
 simp only [okS];omega
theorem rJ {lo hi n:Int} (h:inB lo hi n=true) (h1 : -1000000000≤lo) (h2:hi≤1000000000):okS n:=by
 simp only [inB,Bool.and_eq_true,decide_eq_true_eq] at h
 simp only [okS];omega
def aJV:Pt→Prop
 |.w s=>s.length≤8
 |.n k=>okS k
 |.sp a b=>okS a∧okS b
def okP (ps:List Pt):Prop:=(∀p∈ps,cln p∧aJV p)∧0<ps.length
theorem okP.part {ps:List Pt} (h:okP ps):hU (fM ps)=ps.map ptT:=aHM (fun p hp=>(h.1 p hp).1) h.2
theorem aGG {ps:List Pt} (h:∀p∈ps,aJV p):∀k,(jn ps k).length≤24*k
 |0=>by simp [jn]
 |k+1=>by
  have:=aGG h k
  have:=gP k
  simp only [jn,List.length_append]
  cases e:ps[k]? with
  |none=>simp only [List.length_nil];omega
  |some p=>
   have:(ptT p).length≤23:=aHN (by have:=h p (List.mem_of_getElem? e);cases p<;>exact this)
   simp only;omega
theorem okP.len {ps:List Pt} (h:okP ps):(fM ps).length≤24*ps.length+1:=by
 have:=aGG (fun p hp=>(h.1 p hp).2) ps.length
 simp only [fM,List.length_append,List.length_cons,List.length_nil];omega
theorem qN {α:Type} {f:α→List Pt} {n:Nat}:∀ {l:List α},(∀x∈l,okP (f x)∧(f x).length≤n)→(txt (l.map f)).length≤(24*n+1)*l.length
 |[],_=>by simp [txt]
 |x::l,h=>by
  have h1:=(h x (List.mem_cons_self ..)).1.len
  have h3:=(h x (List.mem_cons_self ..)).2
  have h2:=qN (l:=l) fun y hy=>h y (List.mem_cons_of_mem _ hy)
  rw [List.map_cons,qM,List.length_append,List.length_cons,Nat.mul_succ]
  omega
theorem rK {ps:List Pt} (h:ps.all (fun p=>match p with|.w s=>decide ((10:UInt8)∉s∧(32:UInt8)∉s∧s.length≤8)|.n _=>true|.sp _ _=>true)=true) (h2:∀p∈ps,match p with|.w _=>True|.n k=>okS k|.sp a b=>okS a∧okS b) (h3:0<ps.length):okP ps:=by
 refine ⟨fun p hp=>?_,h3⟩
 have h4:=List.all_eq_true.1 h p hp
 have h5:=h2 p hp
 cases p with
 |w s=>simp only [decide_eq_true_eq] at h4;exact ⟨⟨h4.1,h4.2.1⟩,h4.2.2⟩
 |n k=>exact ⟨aO3 k,h5⟩
 |sp a b=>exact ⟨aN4 a b,h5⟩
theorem tS {α:Type} {step:α→List Str→Option α} {z x:α} {ls:List (List Pt)} (h:∀l∈ls,okP l) (h0:ls≠[]) (h2:run step (ls.map fM) z=some x):dY step z (txt ls)=some x:=by
 unfold dY
 rw [if_pos (aGF h0),aCA fun l hl p hp=>((h l hl).1 p hp).1,h2]
theorem aBq {s:nB} (h:fD s=false):okP (oM s)∧(oM s).length≤6:=by
 simp only [fD,Bool.or_eq_false_iff,Bool.not_eq_false'] at h
 obtain ⟨⟨h1,h2⟩,h3⟩:=h
 have hx:=kP h1 (by omega) (by omega)
 have hy:=kP h2 (by omega) (by omega)
 simp only [jX,Bool.or_eq_true,Bool.and_eq_true] at h3
 unfold oM
 split
 ·rename_i hk
  rcases h3 with ⟨⟨_,h4⟩,h5⟩|⟨⟨h4,_⟩,_⟩
  ·refine ⟨rK (by simp) ?_ (by simp),by simp⟩
   simp only [List.mem_cons,List.not_mem_nil,or_false]
   rintro p (rfl|rfl|rfl|rfl|rfl|rfl)
   ·trivial
   ·exact hx
   ·exact hy
   ·trivial
   ·exact kP h4 (by omega) (by omega)
   exact kP h5 (by omega) (by omega)
  rw [hk] at h4;cases h4
 refine ⟨rK (by simp) ?_ (by simp),by simp⟩
 simp only [List.mem_cons,List.not_mem_nil,or_false]
 rintro p (rfl|rfl|rfl)
 ·trivial
 ·exact hx
 exact hy
theorem aHO {s:nB} (h:fD s=false) (p:Plt):hZ p (hU (fM (oM s)))=some { p with st:=p.st++[s] }:=by
 rw [(aBq h).1.part]
 simp only [fD,Bool.or_eq_false_iff,Bool.not_eq_false'] at h
 obtain ⟨⟨h1,h2⟩,h3⟩:=h
 have hx:=kP h1 (by omega) (by omega)
 have hy:=kP h2 (by omega) (by omega)
 simp only [jX,Bool.or_eq_true,Bool.and_eq_true] at h3
 obtain ⟨x,y,kn,e,n⟩:=s
 replace hx:okS x.1∧okS x.2:=hx
 replace hy:okS y.1∧okS y.2:=hy
 unfold oM
 cases kn with
 |true=>
  rcases h3 with ⟨⟨_,h4⟩,h5⟩|⟨⟨h4,_⟩,_⟩
  ·have he:=kP h4 (by omega) (by omega)
   have hn:=kP h5 (by omega) (by omega)
   simp only [if_true,List.map_cons,List.map_nil,hZ]
   rw [if_neg (by simp [ptT]),if_pos (by simp [ptT])]
   simp only [vD,iK hx.1 hx.2,iK hy.1 hy.2,iK he.1 he.2,iK hn.1 hn.2,List.tail_cons,Option.map_some]
   simp [ptT]
  cases h4
 |false=>
  rcases h3 with ⟨⟨h4,_⟩,_⟩|⟨⟨_,h4⟩,h5⟩
  ·cases h4
  simp only [kH,Bool.and_eq_true,decide_eq_true_eq] at h4 h5
  obtain ⟨e1,e2⟩:=e
  obtain ⟨n1,n2⟩:=n
  simp only at h4 h5
  obtain ⟨rfl,rfl⟩:=h4
  obtain ⟨rfl,rfl⟩:=h5
  simp only [Bool.false_eq_true,if_false,List.map_cons,List.map_nil,hZ]
  rw [if_neg (by simp [ptT]),if_pos (by simp [ptT])]
  simp only [vD,iK hx.1 hx.2,iK hy.1 hy.2,List.tail_cons,Option.map_some]
theorem aCC:∀ {l:List nB},l.any fD=false→∀p:Plt,run hZ ((l.map oM).map fM) p=some { p with st:=p.st++l }
 |[],_,p=>by simp [run]
 |s::l,h,p=>by
  rw [List.any_cons,Bool.or_eq_false_iff] at h
  simp only [List.map_cons,run,aHO h.1]
  rw [aCC h.2]
  simp
theorem aDt {p:Plt} (h:p.valid=true):(∀l∈hQ p,okP l)∧(txt (hQ p)).length≤4096:=by
 simp only [Plt.valid,Bool.and_eq_true,decide_eq_true_eq,Bool.not_eq_true'] at h
 obtain ⟨⟨h1,h2⟩,h3⟩:=h
 have hs:∀s∈p.st,fD s=false:=fun s hs=>jY (by rw [h3];rfl) hs
 have h0:okP (aAl p):=by
  refine rK (by simp [aAl]) ?_ (by simp [aAl])
  simp only [aAl,List.mem_cons,List.not_mem_nil,or_false]
  rintro q (rfl|rfl)
  ·trivial
  exact kP h1 (by omega) (by omega)
 constructor
 ·intro l hl
  rcases List.mem_cons.1 hl with rfl|hl
  ·exact h0
  obtain ⟨s,hm,rfl⟩:=List.mem_map.1 hl
  exact (aBq (hs s hm)).1
 unfold hQ
 rw [qM,List.length_append]
 have h4:=h0.len
 have h5:=qN (f:=oM) (n:=6) (l:=p.st) fun s hm=>aBq (hs s hm)
 have h6:(aAl p).length=2:=rfl
 have:(24*6+1)*p.st.length≤(24*6+1)*10:=Nat.mul_le_mul_left _ (by omega)
 omega
theorem aHP {p:Plt} (h:p.valid=true):pI (txt (hQ p))=some p:=by
 have hv:=h
 simp only [Plt.valid,Bool.and_eq_true,decide_eq_true_eq,Bool.not_eq_true'] at h
 obtain ⟨⟨h1,h2⟩,h3⟩:=h
 have hx:=kP h1 (by omega) (by omega)
 have hr:dY hZ Plt.z (txt (hQ p))=some p:=by
  refine tS (aDt hv).1 (by simp [hQ]) ?_
  have h0:=(aDt hv).1 (aAl p) (List.mem_cons_self ..)
  simp only [hQ,List.map_cons,run]
  rw [h0.part]
  simp only [aAl,List.map_cons,List.map_nil,hZ]
  rw [if_pos (by simp [ptT]),iK hx.1 hx.2]
  simp only [Option.map_some]
  rw [aCC h3]
  simp [Plt.z]
 unfold pI
 rw [hr]
 simp [hv]
theorem aMh {a b c:Int} (ha:okS a) (hb:okS b) (hc:okS c):dI [ptT (.n a),ptT (.n b),ptT (.n c)]=some [a,b,c]:=by
 simp only [dI,pU ha,pU hb,pU hc,Option.map_some]
theorem aO4 {a b:Int} (ha:okS a) (hb:okS b):dI [ptT (.n a),ptT (.n b)]=some [a,b]:=by
 simp only [dI,pU ha,pU hb,Option.map_some]
theorem okK {ps:Int} {k:Int×Int} (h:oQ ps k=false) (hp:ps≤8):okS k.1∧okS k.2:=by
 simp only [oQ,Bool.not_eq_false',Bool.and_eq_true] at h
 exact ⟨rJ h.1.2 (by omega) (by omega),rJ h.2 (by omega) (by omega)⟩
theorem okR {pl ps:Int} {r:Int×Int×Int} (h:rD pl ps r=false) (hl:pl≤4) (hp:ps≤8):okS r.1∧okS r.2.1∧okS r.2.2:=by
 simp only [rD,Bool.or_eq_false_iff,Bool.not_eq_false'] at h
 exact ⟨rJ h.2 (by omega) (by omega),okK h.1 hp⟩
theorem aFL {k:Int×Int} (h:okS k.1∧okS k.2):okP (knL k)∧(knL k).length≤3:=by
 refine ⟨rK (by simp [knL]) ?_ (by simp [knL]),by simp [knL]⟩
 simp only [knL,List.mem_cons,List.not_mem_nil,or_false]
 rintro q (rfl|rfl|rfl)
 ·trivial
 ·exact h.1
 exact h.2
theorem aFM {k:Int×Int×Int} (h:okS k.1∧okS k.2.1∧okS k.2.2):okP (rcL k)∧(rcL k).length≤4:=by
 refine ⟨rK (by simp [rcL]) ?_ (by simp [rcL]),by simp [rcL]⟩
 simp only [rcL,List.mem_cons,List.not_mem_nil,or_false]
 rintro q (rfl|rfl|rfl|rfl)
 ·trivial
 ·exact h.1
 ·exact h.2.1
 exact h.2.2
theorem aJW:∀ {l:List (Int×Int)},(∀k∈l,okS k.1∧okS k.2)→∀c:Chn,run eM ((l.map knL).map fM) c=some { c with kn:=c.kn++l }
 |[],_,c=>by simp [run]
 |k::l,h,c=>by
  have h1:=h k (List.mem_cons_self ..)
  simp only [List.map_cons,run,(aFL h1).1.part]
  simp only [knL,List.map_cons,List.map_nil,eM,aO4 h1.1 h1.2]
  rw [if_neg (by simp [ptT]),if_pos (by simp [ptT])]
  simp only
  rw [aJW fun x hx=>h x (List.mem_cons_of_mem _ hx)]
  simp
theorem aJX:∀ {l:List (Int×Int×Int)},(∀k∈l,okS k.1∧okS k.2.1∧okS k.2.2)→∀c:Chn,run eM ((l.map rcL).map fM) c=some { c with rs:=c.rs++l }
 |[],_,c=>by simp [run]
 |k::l,h,c=>by
  have h1:=h k (List.mem_cons_self ..)
  simp only [List.map_cons,run,(aFM h1).1.part]
  simp only [rcL,List.map_cons,List.map_nil,eM,aMh h1.1 h1.2.1 h1.2.2]
  rw [if_neg (by simp [ptT]),if_neg (by simp [ptT]),if_pos (by simp [ptT])]
  simp only
  rw [aJX fun x hx=>h x (List.mem_cons_of_mem _ hx)]
  simp
structure aO5 (c:Chn):Prop where
 pl:okS c.pl
 ps:okS c.ps
 ms:okS c.ms
 kn:∀k∈c.kn,okS k.1∧okS k.2
 rs:∀k∈c.rs,okS k.1∧okS k.2.1∧okS k.2.2
 nk:c.kn.length≤28
 nr:c.rs.length≤12
theorem aJY {c:Chn} (h:c.valid=true):aO5 c:=by
 simp only [Chn.valid,Bool.and_eq_true,decide_eq_true_eq] at h
 obtain ⟨⟨⟨⟨⟨⟨h1,h2⟩,h3⟩,h4⟩,h5⟩,h6⟩,h7⟩:=h
 have hps:c.ps≤8:=by simp only [inB,Bool.and_eq_true,decide_eq_true_eq] at h2;omega
 have hpl:c.pl≤4:=by simp only [inB,Bool.and_eq_true,decide_eq_true_eq] at h1;omega
 exact ⟨rJ h1 (by omega) (by omega),rJ h2 (by omega) (by omega),rJ h3 (by omega) (by omega),fun k hk=>okK (jY h6 hk) hps,fun k hk=>okR (jY h7 hk) hpl hps,by omega,by omega⟩
theorem aDu {c:Chn} (h:c.valid=true):(∀l∈gQ c,okP l)∧(txt (gQ c)).length≤4096:=by
 have H:=aJY h
 have h0:okP (aAm c):=by
  refine rK (by simp [aAm]) ?_ (by simp [aAm])
  simp only [aAm,List.mem_cons,List.not_mem_nil,or_false]
  rintro q (rfl|rfl|rfl|rfl)
  ·trivial
  ·exact H.pl
  ·exact H.ps
  exact H.ms
 constructor
 ·intro l hl
  rcases List.mem_cons.1 hl with rfl|hl
  ·exact h0
  rcases List.mem_append.1 hl with hl|hl
  ·obtain ⟨s,hm,rfl⟩:=List.mem_map.1 hl
   exact (aFL (H.kn s hm)).1
  obtain ⟨s,hm,rfl⟩:=List.mem_map.1 hl
  exact (aFM (H.rs s hm)).1
 unfold gQ
 have ht:∀a b:List (List Pt),txt (a++b)=txt a++txt b:=fun a b=>by simp [txt]
 rw [qM,ht,List.length_append,List.length_append]
 have h4:=h0.len
 have h5:=qN (f:=knL) (n:=3) (l:=c.kn) fun s hm=>aFL (H.kn s hm)
 have h7:=qN (f:=rcL) (n:=4) (l:=c.rs) fun s hm=>aFM (H.rs s hm)
 have h6:(aAm c).length=4:=rfl
 have:=H.nk
 have:=H.nr
 omega
theorem aHQ {c:Chn} (h:c.valid=true):pJ (txt (gQ c))=some c:=by
 have H:=aJY h
 have hr:dY eM Chn.z (txt (gQ c))=some c:=by
  refine tS (aDu h).1 (by simp [gQ]) ?_
  have h0:=(aDu h).1 (aAm c) (List.mem_cons_self ..)
  simp only [gQ,List.map_cons,List.map_append,run]
  rw [h0.part]
  simp only [aAm,List.map_cons,List.map_nil,eM]
  rw [if_pos (by simp [ptT]),aMh H.pl H.ps H.ms]
  simp only
  rw [aDs (aJW H.kn _),aJX H.rs]
  simp [Chn.z]
 unfold pJ
 rw [hr]
 simp [h]
structure aO6 (m:Msr):Prop where
 im:okS m.im
 su:okS m.su.1∧okS m.su.2
 ey:okS m.ey.1∧okS m.ey.2
 er:∀e∈m.er,okS e.1∧okS e.2
 se:∀s∈m.se,okS s.im∧okS s.rd
 ne:m.er.length≤40
 ns:m.se.length≤12
theorem aJZ {m:Msr} (h:m.valid=true):aO6 m:=by
 simp only [Msr.valid,Bool.and_eq_true,decide_eq_true_eq] at h
 obtain ⟨⟨⟨⟨⟨⟨h1,h2⟩,h3⟩,h4⟩,h5⟩,h6⟩,h7⟩:=h
 have hn:m.er.length≤40:=by simp only [inB,Bool.and_eq_true,decide_eq_true_eq] at h1;omega
 have him:m.im≤6:=by simp only [inB,Bool.and_eq_true,decide_eq_true_eq] at h4;omega
 refine ⟨rJ h4 (by omega) (by omega),kP h5 (by omega) (by omega),kP h2 (by omega) (by omega),fun e he=>?_,fun s hs=>?_,hn,by omega⟩
 ·have h8:=jY h3 he
  simp only [fA,Bool.not_eq_false'] at h8
  exact kP h8 (by omega) (by omega)
 have h8:=jY h7 hs
 simp only [sZ,Bool.or_eq_false_iff,Bool.not_eq_false'] at h8
 exact ⟨rJ h8.1 (by omega) (by omega),rJ h8.2 (by omega) (by omega)⟩
theorem aFN {e:Int×Int} (h:okS e.1∧okS e.2):okP (erL e)∧(erL e).length≤2:=by
 refine ⟨rK (by simp [erL]) ?_ (by simp [erL]),by simp [erL]⟩
 simp only [erL,List.mem_cons,List.not_mem_nil,or_false]
 rintro q (rfl|rfl)
 ·trivial
 exact h
theorem aFO {s:Stg} (h:okS s.im∧okS s.rd):okP (seL s)∧(seL s).length≤3:=by
 refine ⟨rK (by cases e:s.rv<;>simp [seL,aLD,e]) ?_ (by simp [seL]),by simp [seL]⟩
 simp only [seL,List.mem_cons,List.not_mem_nil,or_false]
 rintro q (rfl|rfl|rfl)
 ·trivial
 ·exact h.1
 exact h.2
theorem aJ0:∀ {l:List (Int×Int)},(∀k∈l,okS k.1∧okS k.2)→∀m:Msr,run dR ((l.map erL).map fM) m=some { m with er:=m.er++l }
 |[],_,c=>by simp [run]
 |k::l,h,c=>by
  have h1:=h k (List.mem_cons_self ..)
  simp only [List.map_cons,run,(aFN h1).1.part]
  simp only [erL,List.map_cons,List.map_nil,dR,iK h1.1 h1.2]
  rw [if_neg (by simp [ptT]),if_pos (by simp [ptT])]
  simp only [Option.map_some]
  rw [aJ0 fun x hx=>h x (List.mem_cons_of_mem _ hx)]
  simp
theorem aFP:∀ {l:List Stg},(∀k∈l,okS k.im∧okS k.rd)→∀m:Msr,run dR ((l.map seL).map fM) m=some { m with se:=m.se++l }
 |[],_,c=>by simp [run]
 |k::l,h,c=>by
  have h1:=h k (List.mem_cons_self ..)
  simp only [List.map_cons,run,(aFO h1).1.part]
  obtain ⟨im,rd,rv⟩:=k
  cases rv
  all_goals
   simp only [seL,aLD,Bool.false_eq_true,if_false,if_true,List.map_cons,List.map_nil,dR]
  ·rw [if_neg (by simp [ptT]),if_neg (by simp [ptT]),if_pos (by simp [ptT])]
   simp only [xF,pU h1.1,pU h1.2,List.tail_cons,Option.map_some]
   rw [aFP fun x hx=>h x (List.mem_cons_of_mem _ hx)]
   simp
  rw [if_neg (by simp [ptT]),if_neg (by simp [ptT]),if_neg (by simp [ptT]),if_pos (by simp [ptT])]
  simp only [xF,pU h1.1,pU h1.2,List.tail_cons,Option.map_some]
  rw [aFP fun x hx=>h x (List.mem_cons_of_mem _ hx)]
  simp
theorem aDv {m:Msr} (h:m.valid=true):(∀l∈gL m,okP l)∧(txt (gL m)).length≤4096:=by
 have H:=aJZ h
 have h0:okP (aAn m):=by
  refine rK (by simp [aAn]) ?_ (by simp [aAn])
  simp only [aAn,List.mem_cons,List.not_mem_nil,or_false]
  rintro q (rfl|rfl|rfl|rfl)
  ·trivial
  ·exact H.im
  ·exact H.su
  exact H.ey
 constructor
 ·intro l hl
  rcases List.mem_cons.1 hl with rfl|hl
  ·exact h0
  rcases List.mem_append.1 hl with hl|hl
  ·obtain ⟨s,hm,rfl⟩:=List.mem_map.1 hl
   exact (aFN (H.er s hm)).1
  obtain ⟨s,hm,rfl⟩:=List.mem_map.1 hl
  exact (aFO (H.se s hm)).1
 unfold gL
 have ht:∀a b:List (List Pt),txt (a++b)=txt a++txt b:=fun a b=>by simp [txt]
 rw [qM,ht,List.length_append,List.length_append]
 have h4:=h0.len
 have h5:=qN (f:=erL) (n:=2) (l:=m.er) fun s hm=>aFN (H.er s hm)
 have h7:=qN (f:=seL) (n:=3) (l:=m.se) fun s hm=>aFO (H.se s hm)
 have h6:(aAn m).length=4:=rfl
 have:=H.ne
 have:=H.ns
 omega
theorem aHR {m:Msr} (h:m.valid=true):pK (txt (gL m))=some m:=by
 have H:=aJZ h
 have hr:dY dR Msr.z (txt (gL m))=some m:=by
  refine tS (aDv h).1 (by simp [gL]) ?_
  have h0:=(aDv h).1 (aAn m) (List.mem_cons_self ..)
  simp only [gL,List.map_cons,List.map_append,run]
  rw [h0.part]
  simp only [aAn,List.map_cons,List.map_nil,dR]
  rw [if_pos (by simp [ptT])]
  simp only [xE,pU H.im,iK H.su.1 H.su.2,iK H.ey.1 H.ey.2,List.tail_cons,Option.map_some]
  rw [aDs (aJ0 H.er _),aFP H.se]
  simp [Msr.z]
 unfold pK
 rw [hr]
 simp [h]
end
section
open Go.Gh
variable {E:Env Tryz.prog} {A:E.α}
structure aHS (c:Prop):Prop where
 h:c:=by (first|exact True.intro|omega|(simp only [inI];omega)|(have:=eQ;simp [P.size,bV]<;>first|omega|exact this _|exact ⟨this _,by omega⟩|grind))
def lF (n:Int):UInt8:=UInt8.ofNat (n%256).toNat
def fF (ns:List Int):List UInt8:=ns.map lF
def aO7 (ns:List Int):P:=.list (ns.map (P.int .i64))
theorem aFQ (n:Int):IntKind.u8.wrap n=((lF n).toNat:Int):=by
 have h1:(lF n).toNat=(n%256).toNat:=by
  unfold lF
  simp only [UInt8.toNat_ofNat']
  omega
 rw [h1,IntKind.wrap_u8]
 omega
theorem aFR {ns:List Int} {k:Nat} {x:Int} (l:List UInt8) (h:ns[k]? = some x):l++fF (ns.take k)++[lF x]=l++fF (ns.take (k+1)):=by
 have:ns.take (k+1)=ns.take k++[x]:=by rw [List.take_add_one,h];rfl
 rw [this];simp [fF]
theorem oR (ns:List Int):(fF ns).length=ns.length:=by simp [fF]
theorem aJ1 (l:List UInt8) (b:UInt8):(l++[b]).length=l.length+1:=by simp
theorem aJ2 (l:List UInt8) (n:Int):u8s l++[P.int .u8 (IntKind.u8.wrap n)]=u8s (l++[lF n]):=by rw [aFQ];simp [u8s]
theorem aBr:aJ Tryz.prog 68:=aJ.mk Tryz.func68 (by kernel_rfl) rfl
theorem rL (l:List UInt8) (ns:List Int) (h:l.length≤900000) (hn:ns.length≤10):Gh.bD E 68 [.ref 0 0,.p (aO7 ns)] (aG [(0,.cells [.own 1 (l).length] 0),(1,.arr 5 1 (u8s (l)) false)]) A (fun y=>y = .ok (.p (.tuple [])) (aG [(0,.cells [.own 1 (l++fF ns).length] 0),(1,.arr 5 1 (u8s (l++fF ns)) false)]) A):=by
 refine spX 24 Tryz.func68 rfl ?_
 intro C hN hL
 simp only [Gh.num,List.map_cons,List.map_nil,Nat.reduceAdd]
 unfold aO7
 repeat apply aA
 apply aB
 iterate 3 refine v0 ?_
 apply aC
 refine cl [0,6,7,8] ?_
 repeat apply aA
 refine aP ?_
 repeat apply aA
 refine cJ (fun mz σ=>∃k:Nat,(k≤ns.length)∧mz=ns.length - k∧σ=(sg [(0,.ref 0 0),(6,.p (.list (ns.map (P.int .i64)))),(7,.p (.int .i64 (ns.length:Nat))),(8,.p (.int .i64 (k:Nat)))] [(0,.cells [.own 1 (l++fF (ns.take k)).length] 0),(1,.arr 5 1 (u8s (l++fF (ns.take k))) false)] A []:Sg E)) ?_ (fun mz σ hI=>?_)
 ·refine gA [0,6,7,8] ?_
  exact ⟨_,0,by omega,rfl,sgE (by simp) (by simp [fF])⟩
 obtain ⟨k,hk,hnn,rfl⟩:=hI
 repeat apply aA
 apply aB
 refine v0 ?_
 apply aC
 repeat apply aA
 refine cB (k1:=fun hb1=>?_) (k0:=fun hb1=>?_)
 ·replace hb1:=hB.h {} hb1
  repeat apply aA
  refine aQ ?_
  refine cl [0,6,7,8] ?_
  repeat apply aA
  refine aP ?_
  repeat apply aA
  obtain ⟨x,hx⟩:=fT (l:=ns) (k:=k) (by omega)
  have hbl:(l++fF (ns.take k)).length≤901000:=by rw [List.length_append,oR,List.length_take];omega
  apply aB
  refine v1 (hc:=aHS.h {}) ?_
  iterate 2 refine v0 ?_
  apply aC
  refine cl [0,5,6,7,8] ?_
  repeat apply aA
  apply aB
  iterate 6 refine v0 ?_
  refine v1 (hc:=aHS.h {}) ?_
  refine n1 290 false (hc:=aHS.h {}) ?_
  refine n1 300 false (hc:=aHS.h {}) ?_
  iterate 2 refine v0 ?_
  refine s1 (hc:=aHS.h {}) ?_
  apply aC
  refine cl [0,6,7,8] ?_
  repeat apply aA
  apply aB
  refine v1 (hc:=aHS.h {}) ?_
  refine v0 ?_
  apply aC
  refine dN [0,6,7,8] (h:=?_) (hV:=?_) (n':=ns.length - (k+1))
  ·omega
  refine ⟨k+1,by omega,rfl,sgE rfl ?_⟩
  rw [←aFR l hx,aJ1,←aJ2]
 replace hb1:=hB.h {} hb1
 repeat apply aA
 refine bY ?_
 repeat (first|refine bI ?_|refine aY ?_|refine bC ?_|refine bJ rfl ?_)
 try refine bP ?_
 refine cW ?_
 obtain rfl:k=ns.length:=by omega
 refine fh0 [0,1] ?_
 rw [List.take_length]
end
end Go.Proofs.YtecmhhpccmaeiaaGreatDoor
