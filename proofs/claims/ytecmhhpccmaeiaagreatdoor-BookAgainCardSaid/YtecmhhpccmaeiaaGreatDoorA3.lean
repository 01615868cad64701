/- A way of reading machine states as plain values, with its rules; no program in sight. Made small by a program of ours. -/
import Derived.Test.YtecmhhpccmaeiaaGreatDoorA2
import Derived.RecoverIn
import Derived.RangeFuncLeaves
import Derived.Laws.Cover3
import Derived.Laws.IdiomCopy
import Derived.Below
import Derived.Laws.IdiomStrings
import Derived.Laws.BytesArg
import Derived.ChangeArms
import Derived.DataReads
import Derived.WideShapes
import Derived.Carry
import Derived.OpenShut
import Derived.RowKit3
import Derived.ProofKit
import Derived.ChangeCalls
set_option linter.unusedVariables false
set_option linter.unusedSimpArgs false
set_option linter.unusedSectionVars false
namespace Go.Gh
section
open Go.RowKit
variable {Pg:Program} [Kn Pg] {E:Env Pg} {C:Cx E} {σ:Sg E} {a:Act} {w w':World} {π π':PM} {ρ ρ':RM} {S S':Nat→Prop} {r:Option Nat} {L:Lo C}
def aPB (L:Lo C) (a:Act) (l:Nat) (mk:LoopState→Option Code→Loop) (bs:List (Nat×Obj)):LS E→(Nat→Prop)→PM→World→Prop
 |.run _ h A,S,π,w=>Lp C ⟨L.fr,h,A,L.df⟩ a ((l,.loop (mk .ready none))::bs) S π w
 |.jump c h A,S,π,w=>Lp C ⟨L.fr,h,A,L.df⟩ a ((l,.loop (mk .done (some c)))::bs) S π w
 |.dead _ h A,S,π,w=>Lp C ⟨L.fr,h,A,L.df⟩ a ((l,.loop (mk .busy none))::bs) S π w
def aPC (L:Lo C):LS E→List Y0→Prop
 |.run k h A,x=>L.I k h A∧L.xs[k]? = some x
 |_,_=>False
def LY (L:Lo C):LS E→List Y0→YR→LS E→Prop
 |.run k _ _,_,.b true,.run k' h' A'=>k'=k+1∧L.I (k+1) h' A'
 |.run _ _ _,_,.b false,.jump c h' A'=>∃e,jmp e=some c∧L.K e h' A'
 |.run _ _ _,_,.p p,.dead p' h' A'=>p'=p∧L.KP p h' A'
 |_,_,_,_=>False
def aOG (ok:L.Ok) (a:Act) (l:Nat) (fn:FuncId) (hfn:L.pan=true→(Pg.funcs[fn]?).isSome=true) (D:Nat) {ps:Array Tmp} (hps:ps.toList=L.ps) (bs:List (Nat×Obj)) (hlb:∀p∈bs,p.1≠l):Env Pg where
 α:=LS E
 yv:=.func (.yield l) #[] #[]
 one:=rfl
 Res:=aPB L a l (gO fn a.tmps ps L.assign L.body D) bs
 Can:=aPC L
 Y:=LY L
 stable:=fun {s S π w w' π'} H _ hs hsame hle hk=>by
  cases s with
  |run k h A=>exact Lp.stable H hs hsame hle hk
  |jump c h A=>exact Lp.stable H hs hsame hle hk
  |dead p h A=>exact Lp.stable H hs hsame hle hk
 ycall:=fun {s S π w args vs B} hc H hin hk hv hB=>by
  cases s with
  |jump c h A=>exact hc.elim
  |dead p h A=>exact hc.elim
  |run k h A=>
   obtain ⟨hI,hx⟩:=hc
   have hlen:vs.length=ps.size:=by
    rw [hv.length,ok.len _ (List.mem_of_getElem? hx),←hps];simp
   have hl:=(H:Lp C _ a _ S π w)
   obtain ⟨_,_,_,hb,_⟩:=hl
   have hl:=(hb _ (List.mem_cons_self ..)).1
   refine ⟨l,fn,_,L.assign,L.body,rfl,run_yield hl (by simpa [gO] using hlen),(aI8 ok hI hx hps hfn hlb H hv hB).mono fun e w' kk=>?_⟩
   obtain ⟨b,s',S',π',he,hm,h1,h2,h3⟩:=kk
   refine ⟨b,s',S',π',he,?_,?_,h2,h1,h3⟩
   ·cases b with
    |b b=>
         cases b<;>cases s'<;>first|exact False.elim hm|skip
         ·obtain ⟨e,h1,h2,_⟩:=hm;exact ⟨e,h1,h2⟩
         obtain ⟨h1,h2,_⟩:=hm;exact ⟨h1,h2⟩
    |p p=>
         cases s'<;>first|exact False.elim hm|skip
         obtain ⟨h1,h2,_⟩:=hm;exact ⟨h1,h2⟩
   cases b with
   |b b=>
        cases b<;>cases s'<;>first|exact False.elim hm|skip
        ·obtain ⟨e,h1,h2,h3⟩:=hm;exact h3
        obtain ⟨h1,h2,h3⟩:=hm;exact h3
   |p p=>
        cases s'<;>first|exact False.elim hm|skip
        obtain ⟨h1,h2,h3⟩:=hm;exact h3
mutual
def toQ (h:Nat→Ob):G→Option (Prop×P)
 |.ptr cs=>match aBX h cs with|some (c,ps)=>some (c∧jN ps=true,.ptr ps)|none=>none
 |.fn f a b=>match aBX h a with
  |some (c,ps)=>match aBX h b with
   |some (d,qs)=>some (c∧d,.fn f ps qs)
   |none=>none
  |none=>none
 |.iface t x=>match toQ h x with|some (c,p)=>some (c,.iface t p)|none=>none
 |g=>toP h g
def aBX (h:Nat→Ob):List G→Option (Prop×List P)
 |[]=>some (True,[])
 |g::gs=>match toQ h g with
  |some (c,p)=>match aBX h gs with
   |some (d,ps)=>some (c∧d,p::ps)
   |none=>none
  |none=>none
end
theorem dJ.of_VRow {b:Nat}:∀ {ps:List P} {o:Nat},(∀(j:Nat) p,ps[j]? = some p→∃u,π b (o+j)=some u∧aS π p u)→jN ps=true→dJ π b o ps
 |[],o,_,_=>by simp only [dJ]
 |p::ps,o,h,h1=>by
  simp only [jN,Bool.and_eq_true] at h1
  simp only [dJ]
  refine ⟨?_,dJ.of_VRow (fun j q hq=>?_) h1.2⟩
  ·obtain ⟨u,e,r⟩:=h 0 p rfl
   exact ⟨u,e,r,h1.1⟩
  have:=h (j+1) q (by simpa using hq)
  rwa [Nat.add_assoc,Nat.add_comm 1]
mutual
theorem aC7 {h:Nat→Ob} {A:E.α} (R:Rel E π ρ h A S w):∀ {g:G} {p:P} {c:Prop} {v:Value},toQ h g=some (c,p)→c→aK π ρ E.yv g v→aS π p v
 |.ptr cs,p,c,v,hg,hc,hv=>by
  simp only [toQ] at hg
  split at hg
  ·rename_i c1 ps hps
   cases hg
   simp only [aK] at hv
   obtain ⟨b,o,e,hr⟩:=hv
   simp only [aS]
   exact ⟨b,o,e,dJ.of_VRow (aD3 R hps hc.1 hr) hc.2⟩
  cases hg
 |.fn f a b,p,c,v,hg,hc,hv=>by
  simp only [toQ] at hg
  split at hg
  ·rename_i c1 ps h1
   split at hg
   ·rename_i c2 qs h2
    cases hg
    simp only [aK] at hv
    obtain ⟨as,bs,e,r1,r2⟩:=hv
    simp only [aS]
    exact ⟨as,bs,e,aC8 R h1 hc.1 r1,aC8 R h2 hc.2 r2⟩
   cases hg
  cases hg
 |.iface t x,p,c,v,hg,hc,hv=>by
  simp only [toQ] at hg
  split at hg
  ·rename_i c1 q h1
   cases hg
   simp only [aK] at hv
   obtain ⟨u,e,r⟩:=hv
   simp only [aS]
   exact ⟨u,e,aC7 R h1 hc r⟩
  cases hg
 |.p _,p,c,v,hg,hc,hv=>fJ R (by simpa only [toQ] using hg) hc hv
 |.nils,p,c,v,hg,hc,hv=>fJ R (by simpa only [toQ] using hg) hc hv
 |.agg _,p,c,v,hg,hc,hv=>fJ R (by simpa only [toQ] using hg) hc hv
 |.tuple _,p,c,v,hg,hc,hv=>fJ R (by simpa only [toQ] using hg) hc hv
 |.ref _ _,p,c,v,hg,hc,hv=>fJ R (by simpa only [toQ] using hg) hc hv
 |.own _ _,p,c,v,hg,hc,hv=>fJ R (by simpa only [toQ] using hg) hc hv
 |.aref _ _ _,p,c,v,hg,hc,hv=>fJ R (by simpa only [toQ] using hg) hc hv
 |.fsl _ _ _,p,c,v,hg,hc,hv=>fJ R (by simpa only [toQ] using hg) hc hv
 |.map _,p,c,v,hg,hc,hv=>fJ R (by simpa only [toQ] using hg) hc hv
 |.abs,p,c,v,hg,hc,hv=>fJ R (by simpa only [toQ] using hg) hc hv
 |.undef,p,c,v,hg,hc,hv=>fJ R (by simpa only [toQ] using hg) hc hv
theorem aC8 {h:Nat→Ob} {A:E.α} (R:Rel E π ρ h A S w):∀ {gs:List G} {ps:List P} {c:Prop} {vs:List Value},aBX h gs=some (c,ps)→c→aR π ρ E.yv gs vs→aU π ps vs
 |[],ps,c,vs,hg,_,hv=>by
  simp only [aBX,Option.some.injEq,Prod.mk.injEq] at hg
  obtain ⟨-,rfl⟩:=hg
  simp only [aR] at hv
  simp only [aU];exact hv
 |g::gs,ps,c,vs,hg,hc,hv=>by
  simp only [aBX] at hg
  split at hg
  ·rename_i c1 p h1
   split at hg
   ·rename_i c2 qs h2
    cases hg
    simp only [aR] at hv
    obtain ⟨v,vs',rfl,r1,r2⟩:=hv
    simp only [aU]
    exact ⟨v,vs',rfl,aC7 R h1 hc.1 r1,aC8 R h2 hc.2 r2⟩
   cases hg
  cases hg
theorem aD3 {h:Nat→Ob} {A:E.α} (R:Rel E π ρ h A S w):∀ {gs:List G} {ps:List P} {c:Prop} {b o:Nat},aBX h gs=some (c,ps)→c→eP π ρ E.yv b o gs→∀(j:Nat) p,ps[j]? = some p→∃u,π b (o+j)=some u∧aS π p u
 |[],ps,c,b,o,hg,_,hv,j,p,hp=>by
  simp only [aBX,Option.some.injEq,Prod.mk.injEq] at hg
  obtain ⟨-,rfl⟩:=hg
  simp at hp
 |g::gs,ps,c,b,o,hg,hc,hv,j,p,hp=>by
  simp only [aBX] at hg
  split at hg
  ·rename_i c1 q h1
   split at hg
   ·rename_i c2 qs h2
    cases hg
    simp only [eP] at hv
    obtain ⟨⟨u,e,r1,_⟩,r2⟩:=hv
    cases j with
    |zero=>simp at hp;subst hp;exact ⟨u,e,aC7 R h1 hc.1 r1⟩
    |succ j=>
     have:=aD3 R h2 hc.2 r2 j p (by simpa using hp)
     rwa [Nat.add_assoc,Nat.add_comm 1] at this
   cases hg
  cases hg
end
def toR:G→Option G
 |.p v=>match v with|.ptr cs=>some (.ptr (cs.map .p))|_=>none
 |_=>none
inductive Sp where
 |k
 |p
 |q
 |r
 |n (ss:List Sp)
 |f (ss:List Sp)
mutual
def cvS (h:Nat→Ob):Sp→G→Option (Prop×G)
 |.k,g=>some (True,g)
 |.p,g=>match toP h g with
  |some (c,p)=>some (c,.p p)
  |none=>none
 |.q,g=>match toQ h g with
  |some (c,p)=>some (c,.p p)
  |none=>none
 |.r,g=>match toR g with
  |some g'=>some (True,g')
  |none=>none
 |.n ss,.ptr cs=>match iG h ss (cs.take ss.length) with
  |some (c,cs')=>some (c∧bB cs'=true,.ptr cs')
  |none=>none
 |.n ss,.ref id off=>match h id with
  |.cells cs fz=>match iG h ss ((cs.drop off).take ss.length) with
   |some (c,cs')=>some (c∧off+ss.length≤fz∧bB cs'=true,.ptr cs')
   |none=>none
  |_=>none
 |.f ss,.fn f a b=>match iG h ss b with
  |some (c,b')=>some (c,.fn f a b')
  |none=>none
 |_,_=>none
def iG (h:Nat→Ob):List Sp→List G→Option (Prop×List G)
 |[],[]=>some (True,[])
 |s::ss,g::gs=>match cvS h s g with
  |some (c,g')=>match iG h ss gs with
   |some (d,gs')=>some (c∧d,g'::gs')
   |none=>none
  |none=>none
 |_,_=>none
end
theorem aOH {h:Nat→Ob} {A:E.α} (R:Rel E π ρ h A S w) {g g':G} {c:Prop} {v:Value} (hg:cvS h .q g=some (c,g')) (hc:c) (hv:aK π ρ E.yv g v):aK π ρ E.yv g' v:=by
 simp only [cvS] at hg
 split at hg
 ·rename_i ht
  cases hg
  have:=aC7 R ht hc hv
  simpa only [aK] using this
 cases hg
theorem aOI {h:Nat→Ob} {y:Value} {g g':G} {c:Prop} {v:Value} (hg:cvS h .r g=some (c,g')) (hv:aK π ρ y g v):aK π ρ y g' v:=by
 simp only [cvS] at hg
 split at hg
 ·rename_i g2 h2
  cases hg
  unfold toR at h2
  split at h2
  ·split at h2
   ·cases h2
    simp only [aK,aS] at hv ⊢
    obtain ⟨b,o,e,hr⟩:=hv
    exact ⟨b,o,e,eP.of_PRow hr⟩
   cases h2
  cases h2
 cases hg
theorem aM3 {h:Nat→Ob} {g g':G} {c:Prop} (hg:cvS h .q g=some (c,g')):∀id,g'.men id=true→h id ≠ .none:=by
 simp only [cvS] at hg
 split at hg
 ·cases hg;intro id h;simp [G.men] at h
 cases hg
theorem aM4 {h:Nat→Ob} {g g':G} {c:Prop} (hg:cvS h .r g=some (c,g')):∀id,g'.men id=true→h id ≠ .none:=by
 simp only [cvS] at hg
 split at hg
 ·rename_i g2 h2
  cases hg
  unfold toR at h2
  split at h2
  ·split at h2
   ·cases h2
    intro id h
    simp only [G.men] at h
    rw [gU] at h;cases h
   cases h2
  cases h2
 cases hg
mutual
theorem aC9 {h:Nat→Ob} {A:E.α} (R:Rel E π ρ h A S w):∀ {s:Sp} {g g':G} {c:Prop} {v:Value},cvS h s g=some (c,g')→c→aK π ρ E.yv g v→aK π ρ E.yv g' v
 |.k,g,g',c,v,hg,_,hv=>by simp only [cvS,Option.some.injEq,Prod.mk.injEq] at hg;obtain ⟨-,rfl⟩:=hg;exact hv
 |.p,g,g',c,v,hg,hc,hv=>by
  simp only [cvS] at hg
  split at hg
  ·rename_i ht
   cases hg
   have:=fJ R ht hc hv
   simpa only [aK] using this
  cases hg
 |.q,g,g',c,v,hg,hc,hv=>aOH R hg hc hv
 |.r,g,g',c,v,hg,hc,hv=>aOI hg hv
 |.n ss,g,g',c,v,hg,hc,hv=>by
  cases g<;>simp only [cvS,reduceCtorEq] at hg
  ·rename_i cs
   split at hg
   ·rename_i c1 cs' hcs
    cases hg
    simp only [aK] at hv ⊢
    obtain ⟨b,o,e,hr⟩:=hv
    exact ⟨b,o,e,aA9 R hcs hc.1 (hr.take _) hc.2⟩
   cases hg
  rename_i id off
  split at hg
  ·rename_i cs fz ho
   split at hg
   ·rename_i c1 cs' hcs
    cases hg
    simp only [aK] at hv ⊢
    exact ⟨_,_,hv,aA9 R hcs hc.1 (aC6 R ho hc.2.1) hc.2.2⟩
   cases hg
  cases hg
 |.f ss,g,g',c,v,hg,hc,hv=>by
  cases g<;>simp only [cvS,reduceCtorEq] at hg
  split at hg
  ·rename_i c1 b' hb
   cases hg
   simp only [aK] at hv ⊢
   obtain ⟨as,bs,e,h1,h2⟩:=hv
   exact ⟨as,bs,e,h1,wS R hb hc h2⟩
  cases hg
theorem wS {h:Nat→Ob} {A:E.α} (R:Rel E π ρ h A S w):∀ {ss:List Sp} {gs gs':List G} {c:Prop} {vs:List Value},iG h ss gs=some (c,gs')→c→aR π ρ E.yv gs vs→aR π ρ E.yv gs' vs
 |[],[],gs',c,vs,hg,_,hv=>by
  simp only [iG,Option.some.injEq,Prod.mk.injEq] at hg
  obtain ⟨-,rfl⟩:=hg
  exact hv
 |[],_::_,_,_,_,hg,_,_=>by simp [iG] at hg
 |_::_,[],_,_,_,hg,_,_=>by simp [iG] at hg
 |s::ss,g::gs,gs',c,vs,hg,hc,hv=>by
  simp only [iG] at hg
  split at hg
  ·rename_i c1 g1 h1
   split at hg
   ·rename_i c2 gs2 h2
    cases hg
    simp only [aR] at hv ⊢
    obtain ⟨v,vs',rfl,r1,r2⟩:=hv
    exact ⟨v,vs',rfl,aC9 R h1 hc.1 r1,wS R h2 hc.2 r2⟩
   cases hg
  cases hg
theorem aA9 {h:Nat→Ob} {A:E.α} (R:Rel E π ρ h A S w):∀ {ss:List Sp} {gs gs':List G} {c:Prop} {b o:Nat},iG h ss gs=some (c,gs')→c→eP π ρ E.yv b o gs→bB gs'=true→eP π ρ E.yv b o gs'
 |[],[],gs',c,b,o,hg,_,hv,_=>by
  simp only [iG,Option.some.injEq,Prod.mk.injEq] at hg
  obtain ⟨-,rfl⟩:=hg
  exact hv
 |[],_::_,_,_,_,_,hg,_,_,_=>by simp [iG] at hg
 |_::_,[],_,_,_,_,hg,_,_,_=>by simp [iG] at hg
 |s::ss,g::gs,gs',c,b,o,hg,hc,hv,h1o=>by
  simp only [iG] at hg
  split at hg
  ·rename_i c1 g1 h1
   split at hg
   ·rename_i c2 gs2 h2
    cases hg
    simp only [bB,Bool.and_eq_true] at h1o
    simp only [eP] at hv ⊢
    obtain ⟨⟨u,r1,r2,r3⟩,r4⟩:=hv
    exact ⟨⟨u,r1,aC9 R h1 hc.1 r2,h1o.1⟩,aA9 R h2 hc.2 r4 h1o.2⟩
   cases hg
  cases hg
end
mutual
theorem aDa {h:Nat→Ob} (hw:∀j id,(h j).men id=true→h id ≠ .none):∀ {s:Sp} {g g':G} {c:Prop},cvS h s g=some (c,g')→(∀id,g.men id=true→h id ≠ .none)→∀id,g'.men id=true→h id ≠ .none
 |.k,g,g',c,hg,hm=>by simp only [cvS,Option.some.injEq,Prod.mk.injEq] at hg;obtain ⟨-,rfl⟩:=hg;exact hm
 |.p,g,g',c,hg,hm=>by
  simp only [cvS] at hg
  split at hg
  ·cases hg;intro id h;simp [G.men] at h
  cases hg
 |.q,g,g',c,hg,hm=>aM3 hg
 |.r,g,g',c,hg,hm=>aM4 hg
 |.n ss,g,g',c,hg,hm=>by
  cases g<;>simp only [cvS,reduceCtorEq] at hg
  ·split at hg
   ·rename_i hcs
    cases hg
    simp only [G.men] at hm ⊢
    exact tJ hw hcs fun id h=>hm id (nM h)
   cases hg
  split at hg
  ·rename_i cs fz ho
   split at hg
   ·rename_i hcs
    cases hg
    simp only [G.men]
    exact tJ hw hcs fun id h=>hw _ id (by rw [ho];exact nN (nM h))
   cases hg
  cases hg
 |.f ss,g,g',c,hg,hm=>by
  cases g<;>simp only [cvS,reduceCtorEq] at hg
  split at hg
  ·rename_i hb
   cases hg
   intro id h
   simp only [G.men,Bool.or_eq_true] at hm h
   rcases h with h|h
   ·exact hm id (.inl h)
   exact tJ hw hb (fun id h=>hm id (.inr h)) id h
  cases hg
theorem tJ {h:Nat→Ob} (hw:∀j id,(h j).men id=true→h id ≠ .none):∀ {ss:List Sp} {gs gs':List G} {c:Prop},iG h ss gs=some (c,gs')→(∀id,G.mens id gs=true→h id ≠ .none)→∀id,G.mens id gs'=true→h id ≠ .none
 |[],[],gs',c,hg,hm=>by
  simp only [iG,Option.some.injEq,Prod.mk.injEq] at hg
  obtain ⟨-,rfl⟩:=hg
  exact hm
 |[],_::_,_,_,hg,_=>by simp [iG] at hg
 |_::_,[],_,_,hg,_=>by simp [iG] at hg
 |s::ss,g::gs,gs',c,hg,hm=>by
  simp only [iG] at hg
  split at hg
  ·rename_i c1 g1 h1
   split at hg
   ·rename_i c2 gs2 h2
    cases hg
    intro id h
    simp only [G.mens,Bool.or_eq_true] at hm h
    rcases h with h|h
    ·exact aDa hw h1 (fun id h=>hm id (.inl h)) id h
    exact tJ hw h2 (fun id h=>hm id (.inr h)) id h
   cases hg
  cases hg
end
def imm:G→Bool
 |.p _=>true
 |.nils=>true
 |.agg cs=>imms cs
 |.tuple cs=>imms cs
 |.fn _ a b=>imms a&&imms b
 |.iface _ x=>imm x
 |.ptr cs=>imms cs
 |_=>false
where imms:List G→Bool
 |[]=>true
 |g::gs=>imm g&&imms gs
mutual
theorem aDb {ρ2:RM} {y y2:Value}:∀ {g:G} {v:Value},imm g=true→aK π ρ y g v→aK π ρ2 y2 g v
 |.p _,v,_,h=>by simpa only [aK] using h
 |.nils,v,_,h=>by simpa only [aK] using h
 |.agg cs,v,hi,h=>by
  simp only [imm] at hi
  simp only [aK] at h ⊢
  obtain ⟨vs,e,h⟩:=h
  exact ⟨vs,e,oI hi h⟩
 |.tuple cs,v,hi,h=>by
  simp only [imm] at hi
  simp only [aK] at h ⊢
  obtain ⟨vs,e,h⟩:=h
  exact ⟨vs,e,oI hi h⟩
 |.fn f a b,v,hi,h=>by
  simp only [imm,Bool.and_eq_true] at hi
  simp only [aK] at h ⊢
  obtain ⟨as,bs,e,h1,h2⟩:=h
  exact ⟨as,bs,e,oI hi.1 h1,oI hi.2 h2⟩
 |.iface t x,v,hi,h=>by
  simp only [imm] at hi
  simp only [aK] at h ⊢
  obtain ⟨u,e,h⟩:=h
  exact ⟨u,e,aDb hi h⟩
 |.ptr cs,v,hi,h=>by
  simp only [imm] at hi
  simp only [aK] at h ⊢
  obtain ⟨b,o,e,h⟩:=h
  exact ⟨b,o,e,aD4 hi h⟩
 |.ref _ _,_,hi,_=>by simp [imm] at hi
 |.own _ _,_,hi,_=>by simp [imm] at hi
 |.aref _ _ _,_,hi,_=>by simp [imm] at hi
 |.fsl _ _ _,_,hi,_=>by simp [imm] at hi
 |.map _,_,hi,_=>by simp [imm] at hi
 |.abs,_,hi,_=>by simp [imm] at hi
 |.undef,_,hi,_=>by simp [imm] at hi
theorem oI {ρ2:RM} {y y2:Value}:∀ {gs:List G} {vs:List Value},imm.imms gs=true→aR π ρ y gs vs→aR π ρ2 y2 gs vs
 |[],vs,_,h=>by simpa only [aR] using h
 |g::gs,vs,hi,h=>by
  simp only [imm.imms,Bool.and_eq_true] at hi
  simp only [aR] at h ⊢
  obtain ⟨v,vs',e,h1,h2⟩:=h
  exact ⟨v,vs',e,aDb hi.1 h1,oI hi.2 h2⟩
theorem aD4 {ρ2:RM} {y y2:Value} {b:Nat}:∀ {gs:List G} {o:Nat},imm.imms gs=true→eP π ρ y b o gs→eP π ρ2 y2 b o gs
 |[],o,_,h=>by simp only [eP]
 |g::gs,o,hi,h=>by
  simp only [imm.imms,Bool.and_eq_true] at hi
  simp only [eP] at h ⊢
  obtain ⟨⟨u,h1,h2,h3⟩,h4⟩:=h
  exact ⟨⟨u,h1,aDb hi.1 h2,h3⟩,aD4 hi.2 h4⟩
end
def oJ (fr:Nat→G) (g:Operand):Option (FuncId×List G×List G):=match gev fr g with
 |.p (.fn (.func f) a b)=>some (f,a.map .p,b.map .p)
 |.fn (.func f) a b=>some (f,a,b)
 |_=>none
theorem aCj (H:St C σ a w π ρ S) {g:Operand} {f:FuncId} {ga gb:List G} (hg:oJ σ.fr g=some (f,ga,gb)):∃us vs,a.eval g = .func (.func f) ⟨us⟩ ⟨vs⟩∧aR π ρ E.yv ga us∧aR π ρ E.yv gb vs:=by
 have hv:=fP H g
 unfold oJ at hg
 split at hg
 ·rename_i he
  cases hg
  rw [he] at hv
  simp only [aK,aS] at hv
  obtain ⟨us,vs,e,h1,h2⟩:=hv
  exact ⟨us,vs,e,.of_PRels h1,.of_PRels h2⟩
 ·rename_i he
  cases hg
  rw [he] at hv
  simp only [aK] at hv
  exact hv
 cases hg
theorem Rel.mark {h:Nat→Ob} {A:E.α} (R:Rel E π ρ h A S w) {d D:Nat} (hd:h d = .none) (hdm:∀j,(h j).men d=false) (hD:w.heap[D]? = some (.deferred (some []))) (hn:¬Own ρ h S D) :
  Rel E π (upd ρ d ⟨D,undef,0⟩) (upd h d .mark) A S w:=by
 have hl:∀j,j≠d→bQ (upd ρ d ⟨D,undef,0⟩) j (upd h d .mark j)=bQ ρ j (h j):=fun j hj=>by
  rw [aZ _ _ hj]
  cases h j<;>simp [bQ,aZ _ _ hj]
 have hld:bQ (upd ρ d ⟨D,undef,0⟩) d (upd h d .mark d)=some D:=by simp [aX,bQ]
 refine ⟨R.know,fun j=>?_,fun i j b hij hi hj=>?_,fun i b hi=>?_,R.res,R.inb,R.gl⟩
 ·by_cases hj:j=d
  ·subst hj;rw [aX]
   show w.heap[(upd ρ j ⟨D,undef,0⟩ j).blk]? = _
   rw [aX];exact hD
  rw [aZ _ _ hj]
  refine (R.objs j).keep (PM.le_refl _) (aZ _ _ hj) (fun i hm=>?_) fun b hb=>⟨rfl,rfl⟩
  by_cases e:i=d
  ·subst e;rw [hdm j] at hm;cases hm
  rw [aZ _ _ e];exact .inl rfl
 ·by_cases hi':i=d
  ·subst hi'
   rw [hld] at hi;cases hi
   rw [hl j (Ne.symm hij)] at hj
   exact hn (.inr ⟨j,hj⟩)
  rw [hl i hi'] at hi
  by_cases hj':j=d
  ·subst hj'
   rw [hld] at hj;cases hj
   exact hn (.inr ⟨i,hi⟩)
  rw [hl j hj'] at hj
  exact R.apart i j b hij hi hj
 by_cases hi':i=d
 ·subst hi'
  rw [hld] at hi;cases hi
  exact fun hs=>hn (.inl hs)
 rw [hl i hi'] at hi
 exact R.sep i b hi
theorem LSt.alloc (H:LSt C σ a w π ρ S) (o:Obj):LSt C σ a (w.alloc o) π ρ S:=H.stable (by simp) (fun b hb=>⟨Below.heap_alloc w _ b (by
  rcases hb with hb|⟨id,hb⟩
  ·exact H.rel.inb b hb
  exact (H.rel.objs id).lt hb),rfl⟩) (PM.le_refl _) (eY H.rel.know _)
theorem aDc {h:Nat→Ob} {A:E.α} (R:Rel E π ρ h A S w) {b:Nat} (hb:Own ρ h S b):b<w.heap.size:=by
 rcases hb with hb|⟨id,hb⟩
 ·exact R.inb b hb
 exact (R.objs id).lt hb
theorem aK6 {Q:Exit→Act→World→Prop} {e:GE} {c:Code} (hj:jmp e=some c) (hq:match e with|.ret=>Q .ret a w|.exit i=>Q (.exit i) a w|.goto t=>Q (.goto t) a w|_=>False):c.wpIn (MF Pg r) 0 Pg Q a w:=by
 cases e<;>simp only [jmp,Option.some.injEq,reduceCtorEq] at hj
 ·subst hj;exact wpIn_exit hq
 ·subst hj;exact wpIn_goto hq
 subst hj;exact wpIn_ret hq
theorem aBa {Q:GE→Sg E→Prop} {e:GE} {c:Code} (hj:jmp e=some c) (H:Holds C σ a w) (hq:Q e σ):c.wpIn (MF Pg r) 0 Pg (cE C Q) a w:=by
 refine aK6 hj ?_
 cases e<;>simp only [jmp,reduceCtorEq] at hj
 ·exact ⟨σ,H,hq⟩
 ·exact ⟨σ,H,hq⟩
 exact ⟨σ,H,hq⟩
theorem aHn (ok:L.Ok) {l:Nat} {fn:FuncId} (hfn:L.pan=true→(Pg.funcs[fn]?).isSome=true) {D:Nat} {ps:Array Tmp} (hps:ps.toList=L.ps) {bs:List (Nat×Obj)} (hlb:∀p∈bs,p.1≠l) {f:FuncId} {args:List G} (it:aA7 Pg f args L.xs L.tail L.pan)
  {h:Nat→Ob} {A:E.α} (h0:L.I 0 h A) (H:Lp C ⟨L.fr,h,A,L.df⟩ a ((l,.loop (gO fn a.tmps ps L.assign L.body D .ready none))::bs) S π w) (hgl:Kn.good Pg π)
  (hk:∀b o v,π b o=some v→w.cell? ⟨b,o,none⟩=some v) (hin:∀b,S b→b<w.heap.size) {vs:List Value} {ρ2:RM} (hv:aR π ρ2 (.func (.yield l) #[] #[]) args vs) :
  CallsIn (MF Pg none) 0 Pg f ⟨vs⟩ w fun
   |.returned _,w3=>∃(jump:Option Code) (h':Nat→Ob) (A':E.α) (S':Nat→Prop) (π':PM) (o:Loop),(Instr.endLoop l).run Pg w3 = .ok jump (w3.putObj l (.loop o))∧cH S w π S' (w3.putObj l (.loop o)) π' ∧
     Lp C ⟨L.fr,h',A',L.df⟩ a ((l,.loop o)::bs) S' π' (w3.putObj l (.loop o))∧(match jump with|none=>L.tail=none∧L.I L.xs.length h' A'|some c=>∃e,jmp e=some c∧L.K e h' A')
   |.panicked chain,w3=>∃(p:P) (v:Value) (h':Nat→Ob) (A':E.α) (S':Nat→Prop) (π':PM) (o:Loop),chain=[{ v,recovered:=false }]∧aS π' p v∧cH S w π S' w3 π' ∧
     Lp C ⟨L.fr,h',A',L.df⟩ a ((l,.loop o)::bs) S' π' w3∧((L.tail=some p∧L.I L.xs.length h' A')∨L.KP p h' A')
   |_,_=>False:=by
 let E2:=aOG ok a l fn hfn D hps bs hlb
 have hR2:Rel E2 π ρ2 (aG []) (LS.run 0 h A) S w:=⟨hk,fun _=>trivial,fun i j b _ hi=>by simp [aG,bQ] at hi,fun i b hi=>by simp [aG,bQ] at hi,H,hin,hgl⟩
 have spec:=it E2 (fun k s=>∃h A,s=LS.run k h A∧L.I k h A) (fun s=>∃c h A e,s=LS.jump c h A∧jmp e=some c∧L.K e h A) (fun p s=>∃h A,s=LS.dead p h A∧L.KP p h A)
  (fun k s x ⟨h,A,e,hI⟩ hx=>by subst e;exact ⟨hI,hx⟩)
  (fun k s x b s' ⟨h,A,e,hI⟩ hx hy=>by
   subst e
   cases b with
   |b b=>
    cases b<;>cases s'<;>first|exact False.elim hy|skip
    ·obtain ⟨e,h1,h2⟩:=hy;exact ⟨_,_,_,e,rfl,h1,h2⟩
    obtain ⟨h1,h2⟩:=hy;exact ⟨_,_,by rw [h1],h2⟩
   |p p=>
    cases s'<;>first|exact False.elim hy|skip
    obtain ⟨h1,h2⟩:=hy;subst h1;exact ⟨(ok.wfP _ _ _ h2).1,_,_,rfl,h2⟩)
  (LS.run 0 h A) ⟨h,A,rfl,h0⟩
 refine (spec π ρ2 S w vs hR2 hv).mono fun e w3 k3=>?_
 have hS:∀b,Own ρ2 (aG []) S b→S b:=fun b hb=>by
  rcases hb with hb|⟨id,hb⟩
  ·exact hb
  simp [aG,bQ] at hb
 cases e with
 |outgrown=>exact k3
 |panicked ch=>
  obtain ⟨π',ρ',h',A',S',p,v,hB,hch,hpv,hq⟩:=k3
  have hT:=(hB.trans.weaken hS).shrink (O'':=S') fun b hb=>.inl hb
  rcases hq with ⟨_,_,_,e,_⟩|⟨p',h1,A1,e,hq⟩
  ·cases e
  cases e
  rcases hq with ⟨ht,h2,A2,e,hI⟩|⟨h2,A2,e,hK⟩
  ·subst e
   exact ⟨p,v,h2,A2,S',π',_,hch,hpv,hT,hB.rel.res,.inl ⟨ht,hI⟩⟩
  subst e
  exact ⟨p,v,h2,A2,S',π',_,hch,hpv,hT,hB.rel.res,.inr hK⟩
 |returned v=>
  obtain ⟨π',ρ',h',A',S',g,hB,_,_,hq⟩:=k3
  have hq:(L.tail=none∧∃k h A,A'=LS.run k h A∧k=L.xs.length∧L.I k h A)∨∃c h A e,A'=LS.jump c h A∧jmp e=some c∧L.K e h A:=by
   rcases hq with ⟨v,h1,A1,e,hq⟩|⟨_,_,_,e,_⟩
   ·cases e
    rcases hq with ⟨ht,h,A,e,hI⟩|hq
    ·exact .inl ⟨ht,_,h,A,e,rfl,hI⟩
    exact .inr hq
   cases e
  have hT:=(hB.trans.weaken hS).shrink (O'':=S') fun b hb=>.inl hb
  have main:∀(st:LoopState) (pe:Option Code) (h1:Nat→Ob) (A1:E.α),st ≠ .busy→Lp C ⟨L.fr,h1,A1,L.df⟩ a ((l,.loop (gO fn a.tmps ps L.assign L.body D st pe))::bs) S' π' w3 →
    ∃o,(Instr.endLoop l).run Pg w3 = .ok pe (w3.putObj l (.loop o))∧cH S w π S' (w3.putObj l (.loop o)) π'∧Lp C ⟨L.fr,h1,A1,L.df⟩ a ((l,.loop o)::bs) S' π' (w3.putObj l (.loop o)):=fun st pe h1 A1 hst HL=>by
   obtain ⟨ρ3,S3,H3,hb3,hS3⟩:=HL
   have hl3:=(hb3 _ (List.mem_cons_self ..)).1
   have hlt3:=(Array.getElem?_eq_some_iff.1 hl3).1
   refine ⟨_,run_endLoop hl3 hst,hT.trans (uI ((hS3 l).2 (.inr ⟨_,List.mem_cons_self ..,rfl⟩))),ρ3,S3,H3.other (hb3 _ (List.mem_cons_self ..)).2 (fun o' ho=>by rw [hl3] at ho;cases ho;rfl),fun p hp=>?_,fun b=>(hS3 b).trans ?_⟩
   ·rcases List.mem_cons.1 hp with rfl|hp
    ·exact ⟨World.putObj_heap_same hlt3,(hb3 _ (List.mem_cons_self ..)).2⟩
    have:=hb3 p (List.mem_cons_of_mem _ hp)
    exact ⟨(World.putObj_heap_other (hlb p hp)).trans this.1,this.2⟩
   simp
  rcases hq with ⟨ht,k,h1,A1,e,hk,hI⟩|⟨c,h1,A1,e,he,hj,hK⟩
  ·subst e
   obtain ⟨o,m1,m2,m3⟩:=main .ready none h1 A1 (by simp) hB.rel.res
   exact ⟨none,h1,A1,S',π',o,m1,m2,m3,ht,hk ▸ hI⟩
  subst he
  obtain ⟨o,m1,m2,m3⟩:=main .done (some c) h1 A1 (by simp) hB.rel.res
  exact ⟨some c,h1,A1,S',π',o,m1,m2,m3,e,hj,hK⟩
theorem uY {g:Operand} {f:FuncId} {us vs:List Value} (he:a.eval g = .func (.func f) ⟨us⟩ ⟨vs⟩) (hent:aJ Pg f) (l:Nat) (w:World) :
  ∃d,(resolve a.eval (rangeCall g l) 0).run Pg w = .ok d w∧(invoke d.target d.args).run Pg w = .ok (.enter f ⟨us++(.func (.yield l) #[] #[]::vs)⟩) w∧∀f',Target.leads Pg w d.target d.args=some f'→f'=f:=by
 refine ⟨{ target:=.fn (.func f) ⟨vs⟩,args:=⟨us⟩ ++ #[.func (.yield l) #[] #[]] },?_,?_,fun f' hf'=>by simp [Target.leads] at hf';exact hf'.symm⟩
 ·simp [resolve,he,Deferred.ofValue];rfl
 have:=hent (⟨us++(.func (.yield l) #[] #[]::vs)⟩) w
 simpa [invoke] using this
theorem aFi (L:Lo C) (ok:L.Ok) {g:Operand} {ps:Array Tmp} (hps:ps.toList=L.ps) {f:FuncId} {ga gb aa ab:List G} {ka kb:List Sp} {ca cb:Prop} {assign body:Code} (hg:oJ σ.fr g=some (f,ga,gb)) (hent:aJ Pg f)
  (hca:iG σ.h ka ga=some (ca,aa)) (hcb:iG σ.h kb gb=some (cb,ab)) (hia:imm.imms aa=true) (hib:imm.imms ab=true) (h1:ca) (h2:cb) (it:aA7 Pg f (aa++(.abs::ab)) L.xs L.tail L.pan) (hfr:L.fr=σ.fr) (hdf:L.df=σ.df) (has:L.assign=assign) (hbo:L.body=body) (h0:L.I 0 σ.h σ.A) {d:Nat} (hd:C.lim≤d)
  {Q:GE→Sg E→Prop} (hK:∀e h A,L.K e h A→h d = .none∧Q e ⟨L.fr,upd h d .mark,A,.mark d::L.df⟩) (hP:∀p h A,((L.tail=some p∧L.I L.xs.length h A)∨L.KP p h A)→h d = .none∧Q (.panic p) ⟨L.fr,upd h d .mark,A,.mark d::L.df⟩) (hI:∀h A,L.tail=none→L.I L.xs.length h A→h d = .none∧Q .normal ⟨L.fr,upd h d .mark,A,.mark d::L.df⟩) :
  ∀a w,Holds C σ a w→∀fn:FuncId,(L.pan=true→(Pg.funcs[fn]?).isSome=true)→∃(l:Nat) (mark:List Deferred) (w₁:World) (d:Deferred) (w₁':World) (f:FuncId) (args:Array Value) (w₂:World),
   (Instr.enterLoop fn a.tmps ps assign body none).run Pg w = .ok (l,mark) w₁ ∧
   (resolve a.eval (rangeCall g l) 0).run Pg w₁ = .ok d w₁' ∧
   (∀f',Target.leads Pg w₁' d.target d.args=some f'→(MF Pg none).fn f') ∧
   (invoke d.target d.args).run Pg w₁' = .ok (.enter f args) w₂ ∧
   ((MF Pg none).depth.isSome=true→1≤0) ∧
   CallsIn (MF Pg none) 0 Pg f args w₂ (rangePost (MF Pg none) 0 Pg l (cE C Q) { a with defers:=mark++a.defers }):=by
 intro a w ⟨π,ρ,S,H⟩ fn hfn
 subst has hbo
 obtain ⟨us,vs,he,hu,hv⟩:=aCj H hg
 let D:=w.heap.size
 let l:=w.heap.size+1
 let rc:=gO fn a.tmps ps L.assign L.body D .ready none
 let w1:=(w.alloc (.deferred (some []))).alloc (.loop rc)
 have hl1:w1.heap[l]? = some (.loop rc):=by
  have:=World.alloc_heap_new (w.alloc (.deferred (some []))) (.loop rc);rwa [World.size_alloc] at this
 have hD1:w1.heap[D]? = some (.deferred (some [])):=(Below.heap_alloc _ _ _ (by simp [D])).trans (World.alloc_heap_new w _)
 have hσ:(⟨L.fr,σ.h,σ.A,L.df⟩:Sg E)=σ:=by rw [hfr,hdf]
 have hLS:LSt C ⟨L.fr,σ.h,σ.A,L.df⟩ a w1 π ρ S:=by rw [hσ];exact (H.ls.alloc _).alloc _
 have hno:∀b,w.heap.size≤b→¬Own ρ σ.h S b:=fun b hb ho=>by have:=aDc H.rel ho;omega
 let S1:Nat→Prop:=fun b=>Own ρ σ.h S b∨∃p∈[(l,Obj.loop rc),(D,.deferred (some []))],p.1=b
 have HL:Lp C ⟨L.fr,σ.h,σ.A,L.df⟩ a [(l,.loop rc),(D,.deferred (some []))] S1 π w1:=⟨ρ,S,hLS,fun p hp=>by
   simp only [List.mem_cons,List.not_mem_nil,or_false] at hp
   rcases hp with rfl|rfl
   ·exact ⟨hl1,hno _ (by simp [l])⟩
   exact ⟨hD1,hno _ (by simp [D])⟩,fun _=>Iff.rfl⟩
 have hT1:cH C.O0 C.w0 C.π0 S1 w1 π:=by
  refine ⟨Nat.le_trans H.trans.size (by simp [w1];omega),H.trans.os,H.trans.tape,H.trans.output,fun b hb hn=>?_,H.trans.le,fun b hb=>?_⟩
  ·have hb':b<w.heap.size:=Nat.lt_of_lt_of_le hb H.trans.size
   refine ⟨?_,(H.trans.keep b hb hn).2⟩
   exact ((Below.heap_alloc _ _ b (by simp;omega)).trans (Below.heap_alloc w _ b hb')).trans (H.trans.keep b hb hn).1
  rcases hb with hb|⟨p,hp,rfl⟩
  ·exact H.trans.own b hb
  have:=H.trans.size
  simp only [List.mem_cons,List.not_mem_nil,or_false] at hp
  rcases hp with rfl|rfl
  ·exact .inr (by simp [l];omega)
  exact .inr (by simp [D];omega)
 obtain ⟨dd,hres,hinv,hld⟩:=uY he hent l w1
 have hargs:aR π ρ (.func (.yield l) #[] #[]) (aa++(.abs::ab)) (us++(.func (.yield l) #[] #[]::vs)):=
  (oI hia (wS H.rel hca h1 hu)).append (by simp only [aR,aK];exact ⟨_,_,rfl,rfl,oI hib (wS H.rel hcb h2 hv)⟩)
 refine ⟨l,[{ target:=.collected D,args:=#[] }],w1,dd,w1,f,_,w1,run_enterLoop_outer _ _ _ _ _,hres,fun f' hf'=>?_,hinv,fun h=>by simp [Fence.wide] at h,?_⟩
 ·trivial
 refine jD ((aHn ok hfn hps (bs:=[(D,.deferred (some []))]) (fun p hp=>by simp at hp;subst hp;simp [D,l]) it h0 HL H.rel.gl (eY (eY H.rel.know _) _) (fun b hb=>?_) hargs).mono fun e w3 k3=>?_)
 ·rcases hb with hb|⟨p,hp,rfl⟩
  ·have:=aDc H.rel hb;simp [w1];omega
  simp only [List.mem_cons,List.not_mem_nil,or_false] at hp
  rcases hp with rfl|rfl<;>simp [w1,l,D]
  omega
 have build:∀(W:World) (π':PM) (S':Nat→Prop) (h':Nat→Ob) (A':E.α) (o:Loop),cH S1 w1 π S' W π'→Lp C ⟨L.fr,h',A',L.df⟩ a [(l,.loop o),(D,.deferred (some []))] S' π' W→h' d = .none →
   ∃ρ4 S4,St C ⟨L.fr,upd h' d .mark,A',.mark d::L.df⟩ { a with defers:=[{ target:=.collected D,args:=#[] }]++a.defers } W π' ρ4 S4:=fun W π' S' h' A' o hT HLp hhd=>by
  obtain ⟨ρ3,S3,H3,hb3,hS3⟩:=HLp
  have hdm:∀j,(h' j).men d=false:=fun j=>by
   cases hm:(h' j).men d with
   |false=>rfl
   |true=>exact absurd hhd (H3.wfh j d hm)
  have hDb:=hb3 (D,.deferred (some [])) (by simp)
  have R4:=H3.rel.mark hhd hdm hDb.1 hDb.2
  have hne:∀id,h' id ≠ .none→upd h' d Ob.mark id ≠ .none:=fun id hid=>by
   simp only [upd];split
   ·simp
   exact hid
  have hidd:∀id,h' id ≠ .none→upd ρ3 d ⟨D,undef,0⟩ id=ρ3 id:=fun id hid=>aZ _ _ fun e=>hid (e ▸ hhd)
  refine ⟨upd ρ3 d ⟨D,undef,0⟩,S3,H3.size,fun t=>(H3.vals t).mono (PM.le_refl _) fun id hm=>.inl (hidd id (H3.wfr t id hm)),?_,R4,?_,fun j hj=>?_,fun t id hm=>hne id (H3.wfr t id hm),fun j id hm=>?_,fun g hg id hm=>?_⟩
  ·exact ⟨_,_,rfl,by simp [aHd,aX],H3.defs.mono (PM.le_refl _) fun id g hg hm=>.inl (hidd id (H3.wfd g hg id hm))⟩
  ·refine (hT1.trans hT).shrink fun b hb=>(hS3 b).2 ?_
   rcases hb with hb|⟨id,hb⟩
   ·exact .inl (.inl hb)
   by_cases e:id=d
   ·subst e
    simp only [aX,bQ,Option.some.injEq] at hb
    exact .inr ⟨(D,.deferred (some [])),by simp,hb⟩
   simp only [aZ _ _ e] at hb
   refine .inl (.inr ⟨id,?_⟩)
   have e2:upd ρ3 d ⟨D,undef,0⟩ id=ρ3 id:=aZ _ _ e
   show bQ ρ3 id (h' id)=some b
   cases ho:h' id<;>rw [ho] at hb<;>simp only [bQ,e2,reduceCtorEq] at hb ⊢<;>exact hb
  ·rw [aZ _ _ (by omega)];exact H3.step j hj
  ·simp only [upd] at hm
   split at hm
   ·simp [Ob.men] at hm
   exact hne id (H3.wfh j id hm)
  rcases List.mem_cons.1 hg with rfl|hg
  ·simp only [GD.men,beq_iff_eq] at hm
   subst hm
   show upd h' d Ob.mark d ≠ .none
   rw [aX];simp
  exact hne id (H3.wfd g hg id hm)
 cases e with
 |outgrown=>exact k3.elim
 |panicked ch=>
  obtain ⟨p,v,h',A',S',π',o,hch,hpv,hT,HLp,hj⟩:=k3
  obtain ⟨hhd,hq⟩:=hP p h' A' hj
  obtain ⟨ρ4,S4,hSt⟩:=build _ _ _ _ _ _ hT HLp hhd
  exact ⟨_,p,v,π',ρ4,S4,hch,hpv,hSt,hq⟩
 |returned v=>
  obtain ⟨jump,h',A',S',π',o,hend,hT,HLp,hj⟩:=k3
  have hhd:h' d = .none:=by
   cases jump with
   |none=>exact (hI h' A' hj.1 hj.2).1
   |some c=>obtain ⟨e,_,hk⟩:=hj;exact (hK e h' A' hk).1
  obtain ⟨ρ4,S4,hSt⟩:=build _ _ _ _ _ _ hT HLp hhd
  refine ⟨jump,_,hend,?_⟩
  cases jump with
  |none=>exact ⟨_,⟨π',_,S4,hSt⟩,(hI h' A' hj.1 hj.2).2⟩
  |some c=>
   obtain ⟨e,hjm,hk⟩:=hj
   exact aBa hjm ⟨π',_,S4,hSt⟩ (hK e h' A' hk).2
def wpX (Pg:Program) (e:Bool) (r:Option Nat) (c:Code) (Q:Exit→Act→World→Prop) (a:Act) (w:World):Prop:=
 ∀(b:Frame) (k:List Item) (cs:List Frame),b.roundOf=r→(e=true→(Pg.funcs[b.fn]?).isSome=true) →
  ∃e a' w',Q e a' w'∧ArrivesIn (Machine.fenced Pg (MF Pg r)) Pg (lone (b.atR a (.code c::k)) cs w) b k cs e a' w'
theorem aM5 {e:Bool} {c:Code} {Q:Exit→Act→World→Prop} (h:c.wpIn (MF Pg r) 0 Pg Q a w):wpX Pg e r c Q a w:=fun b k cs hro _=>h b k cs hro trivial (room_wide _)
theorem aBb {e:Bool} {c:Code} {Q Q':Exit→Act→World→Prop} (h:wpX Pg e r c Q a w) (hq:∀e a w,Q e a w→Q' e a w):wpX Pg e r c Q' a w:=
 fun b k cs hro hb=>let ⟨e,a',w',q,r⟩:=h b k cs hro hb;⟨e,a',w',hq _ _ _ q,r⟩
theorem aK7 {e:Bool} {x y:Code} {Q:Exit→Act→World→Prop} (h:wpX Pg e r x (Exit.then (wpX Pg e r y Q) Q) a w):wpX Pg e r (.seq x y) Q a w:=by
 intro b k cs hro hb
 have h0:(lone (b.atR a (.code (.seq x y)::k)) cs w).fenced Pg (MF Pg r):=fenced_calm (n:=0) trivial (room_wide _) rfl
 obtain ⟨e1,a₁,w₁,hq,harr⟩:=h b (.code y::k) cs hro hb
 cases e1 with
 |normal=>
  obtain ⟨e₂,a₂,w₂,hq₂,harr₂⟩:=hq b k cs hro hb
  exact ⟨e₂,a₂,w₂,hq₂,.of_steps (.head h0 stepR_seq harr) harr₂⟩
 |exit id=>exact ⟨_,a₁,w₁,hq,.of_steps (.one h0 stepR_seq) (.pass (x:=.code y) rfl (fun _ _=>.inl (by simp)) harr)⟩
 |goto l=>exact ⟨_,a₁,w₁,hq,.of_steps (.one h0 stepR_seq) (.pass (x:=.code y) rfl (fun _ _=>.inl (by simp)) harr)⟩
 |ret=>exact ⟨_,a₁,w₁,hq,.of_steps (.one h0 stepR_seq) (.pass (x:=.code y) rfl (fun _ _=>.inl (by simp)) harr)⟩
 |panic ch=>exact ⟨_,a₁,w₁,hq,.of_steps (.one h0 stepR_seq) (.pass (x:=.code y) rfl (fun _ _=>.inl (by simp)) harr)⟩
 |outgrown=>exact ⟨_,a₁,w₁,hq,.of_steps (.one h0 stepR_seq) (.pass (x:=.code y) rfl (fun _ _=>.inl (by simp)) harr)⟩
theorem aHo {e:Bool} {id:Nat} {c:Code} {Q:Exit→Act→World→Prop} (h:wpX Pg e r c (Exit.inBlock id Q) a w):wpX Pg e r (.block id c) Q a w:=by
 intro b k cs hro hb
 have h0:(lone (b.atR a (.code (.block id c)::k)) cs w).fenced Pg (MF Pg r):=fenced_calm (n:=0) trivial (room_wide _) rfl
 obtain ⟨e1,a₁,w₁,hq,harr⟩:=h b (.inBlock id::k) cs hro hb
 cases e1 with
 |normal=>exact ⟨.normal,a₁,w₁,hq,.head h0 stepR_block (StepsIn.trans harr (.one (fenced_calm (n:=0) trivial (room_wide _) rfl) stepR_inBlock))⟩
 |exit id'=>
  by_cases hid:id'=id
  ·simp only [Exit.inBlock,hid,if_true] at hq
   exact ⟨.normal,a₁,w₁,hq,.head h0 stepR_block (harr.1 k (by simp [exitTo,hid]))⟩
  simp only [Exit.inBlock,hid,if_false] at hq
  have this:(id==id')=false:=by simp;exact fun h=>hid h.symm
  have hx:exitTo id' (.inBlock id::k)=exitTo id' k:=by simp [exitTo,this]
  exact ⟨.exit id',a₁,w₁,hq,fun k' hk=>.head h0 stepR_block (harr.1 k' (by rw [hx];exact hk)),
   fun hr' hk=>let ⟨k₁,h1,h2⟩:=harr.2 hr' (by rw [hx];exact hk);⟨k₁,h1,.head h0 stepR_block h2⟩⟩
 |goto l=>
  have hx:gotoIn l (.inBlock id::k)=gotoIn l k:=by simp [gotoIn]
  exact ⟨_,a₁,w₁,hq,fun k' hk=>.head h0 stepR_block (harr.1 k' (by rw [hx];exact hk)),
   fun hr' hk=>let ⟨k₁,h1,h2⟩:=harr.2 hr' (by rw [hx];exact hk);⟨k₁,h1,.head h0 stepR_block h2⟩⟩
 |ret=>exact ⟨_,a₁,w₁,hq,.of_steps (.one h0 stepR_block) harr⟩
 |panic ch=>exact ⟨_,a₁,w₁,hq,.of_steps (.one h0 stepR_block) harr⟩
 |outgrown=>exact ⟨_,a₁,w₁,hq,.of_steps (.one h0 stepR_block) harr⟩
theorem uZ {e:Bool} {g:Operand} {ps:Array Tmp} {assign body:Code} {Q:Exit→Act→World→Prop}
  (h:∀fn,(e=true→(Pg.funcs[fn]?).isSome=true)→∃(l:Nat) (mark:List Deferred) (w₁:World) (d:Deferred) (w₁':World) (f:FuncId) (args:Array Value) (w₂:World),
   (Instr.enterLoop fn a.tmps ps assign body none).run Pg w = .ok (l,mark) w₁ ∧
   (resolve a.eval (rangeCall g l) 0).run Pg w₁ = .ok d w₁' ∧
   (∀f',Target.leads Pg w₁' d.target d.args=some f'→(MF Pg none).fn f') ∧
   (invoke d.target d.args).run Pg w₁' = .ok (.enter f args) w₂ ∧
   ((MF Pg none).depth.isSome=true→1≤0) ∧
   CallsIn (MF Pg none) 0 Pg f args w₂ (rangePost (MF Pg none) 0 Pg l Q { a with defers:=mark++a.defers })):wpX Pg e none (.rangeFunc g ps assign body) Q a w:=by
 intro b k cs hro hb
 obtain ⟨l,mark,w₁,d,w₁',f,args,w₂,he,hres,hlead,hinv,hn,hF,hcall⟩:=h b.fn hb
 rw [←hro] at he
 have h0:(lone (b.atR a (.code (.rangeFunc g ps assign body)::k)) cs w).fenced Pg (MF Pg none):=by
  refine fenced_lone (.inl trivial) (fun f' hf'=>hlead f' ?_) (room_wide _)
  have hev:=Frame.eval_atR b a (.code (.rangeFunc g ps assign body)::k)
  simp only [Frame.atR] at hev
  simp only [Frame.about,Frame.atR,he,hev,hres] at hf'
  exact hf'
 have henter:=stepR_rangeFunc (P:=Pg) (b:=b) (a:=a) (k:=k) (cs:=cs) (w:=w) he hres hinv
 obtain ⟨e,w₃,fr,hR,hsteps,hfn,hleave⟩:=hcall (b.atR { a with defers:=mark++a.defers } (.inRangeFunc l::k)::cs) (room_wide _)
 cases e with
 |outgrown=>
  obtain ⟨a₀,w₀,hq⟩:=hR
  exact ⟨.outgrown,a₀,w₀,hq,.inr (Outgrown.of_steps (.one henter) hsteps)⟩
 |returned v=>
  have hl:(lone fr (b.atR { a with defers:=mark++a.defers } (.inRangeFunc l::k)::cs) w₃).fenced Pg (MF Pg none):=fenced_leaving (n:=0) trivial (room_wide _) hleave
  obtain ⟨jump,w₄,hend,hj⟩:=hR
  have sback:StepsIn (Machine.fenced Pg (MF Pg none)) Pg (lone (b.atR a (.code (.rangeFunc g ps assign body)::k)) cs w) (lone (b.atR { a with defers:=mark++a.defers } ((jump.map Item.code).toList++k)) cs w₄):=by
   refine .head h0 henter (StepsIn.trans hsteps (.head hl ?_ (.one (fenced_calm (n:=0) (fr:=b.atR { a with defers:=mark++a.defers } (.endRangeFunc l::k)) trivial (room_wide _) rfl) (stepR_endRangeFunc hend))))
   rw [←finish_atR_inRangeFunc l v];exact step_leave_returned hleave
  cases jump with
  |none=>exact ⟨.normal,_,w₄,hj,sback⟩
  |some c=>
   obtain ⟨e',a'',w₅,hq,harr⟩:=hj b k cs hro trivial (room_wide _)
   exact ⟨e',a'',w₅,hq,.of_steps sback harr⟩
 |panicked chain=>
  have hl:(lone fr (b.atR { a with defers:=mark++a.defers } (.inRangeFunc l::k)::cs) w₃).fenced Pg (MF Pg none):=fenced_leaving (n:=0) trivial (room_wide _) hleave
  refine ⟨.panic chain,_,w₃,hR,.inRangeFunc l::k,.head h0 henter (StepsIn.trans hsteps (.one hl ?_))⟩
  rw [←Frame.raise_atR];exact step_leave_panicked hleave
theorem aBc {f:FuncId} {fn:Func} {c:Code} {args:Array Value} {R:Ending→World→Prop} (hf:Pg.funcs[f]? = some fn) (hb:fn.body=some c)
  (h:wpX Pg true none c (bodyPostM (MF Pg none) 0 Pg fn R) { tmps:=args++Array.replicate (fn.ntmps - args.size) undef,defers:=[] } w):CallsIn (MF Pg none) 0 Pg f args w R:=by
 refine ⟨trivial,fun cs hr=>?_⟩
 let b:Frame:={ (default:Frame) with fn:=f,kind:=.normal,roundOf:=none }
 have henter:Frame.enter Pg f args .normal=b.atR { tmps:=args++Array.replicate (fn.ntmps - args.size) undef,defers:=[] } [.code c]:=by
  simp [Frame.enter,Frame.atR,hf,hb,b]
 obtain ⟨e,a',w',hq,harr⟩:=h b [] cs rfl (fun _=>by show (Pg.funcs[f]?).isSome=true;rw [hf];rfl)
 rw [←henter] at harr
 cases e with
 |normal=>
  obtain ⟨e',w'',fr',hR,hs,hfn,hl⟩:=leaves_stepsInM a'.defers .returning w' { b.atR a' [] with mode:=.returning } cs rfl rfl rfl hf rfl trivial hr hq
  exact ⟨e',w'',fr',hR,ComesIn.of_steps (StepsIn.trans harr (.one (fenced_calm (n:=0) (fr:=b.atR a' []) trivial hr rfl) (stepR_end rfl))) hs,hfn,hl⟩
 |ret=>
  obtain ⟨todo,hs₀⟩:=harr.1 rfl
  obtain ⟨e',w'',fr',hR,hs,hfn,hl⟩:=leaves_stepsInM a'.defers .returning w' { b.atR a' todo with mode:=.returning } cs rfl rfl rfl hf rfl trivial hr hq
  exact ⟨e',w'',fr',hR,ComesIn.of_steps hs₀ hs,hfn,hl⟩
 |panic chain=>
  obtain ⟨todo,hs₀⟩:=harr
  obtain ⟨e',w'',fr',hR,hs,hfn,hl⟩:=leaves_stepsInM a'.defers (.panicking chain) w' { b.atR a' todo with mode:=.panicking chain } cs rfl rfl rfl hf rfl trivial hr hq
  exact ⟨e',w'',fr',hR,ComesIn.of_steps hs₀ hs,hfn,hl⟩
 |exit id=>exact hq.elim
 |goto l=>exact hq.elim
 |outgrown=>exact ⟨.outgrown,w',b,hq,harr.resolve_left (by simp [b]),rfl,trivial⟩
structure qX (e:Bool) (C:Cx E) (r:Option Nat) (c:Code) (Q:GE→Sg E→Prop) (σ:Sg E):Prop where
 run:∀a w,Holds C σ a w→wpX Pg e r c (cE C Q) a w
theorem bK {e:Bool} {c:Code} {Q:GE→Sg E→Prop} (h:gwp C r c Q σ):qX e C r c Q σ:=⟨fun a w H=>aM5 (h.run a w H)⟩
theorem aV {e:Bool} {x y:Code} {Q:GE→Sg E→Prop} (h:qX e C r x (rT (qX e C r y Q) Q) σ):qX e C r (.seq x y) Q σ:=⟨fun a w H=>aK7 (aBb (h.run a w H) fun e a' w' k=>by
 cases e with
 |normal=>obtain ⟨σ',H',hq⟩:=k;exact qX.run hq a' w' H'
 |_=>exact k)⟩
theorem iU {e:Bool} {id:Nat} {c:Code} {Q:GE→Sg E→Prop} (h:qX e C r c (nZ id Q) σ):qX e C r (.block id c) Q σ:=⟨fun a w H=>aHo (aBb (h.run a w H) fun e a' w' k=>by
 cases e with
 |exit i=>
  obtain ⟨σ',H',hq⟩:=k
  simp only [nZ] at hq
  simp only [Exit.inBlock]
  split
  ·rename_i e;rw [if_pos e] at hq;exact ⟨σ',H',hq⟩
  rename_i e;rw [if_neg e] at hq;exact ⟨σ',H',hq⟩
 |_=>exact k)⟩
theorem aK8 {e:Bool} {c:Code} {Q:GE→Sg E→Prop} {σ':Sg E} (h:Le C σ σ') (k:qX e C r c Q σ'):qX e C r c Q σ:=⟨fun a w H=>k.run a w (h a w H)⟩
theorem aHp {e:Bool} (L:Lo C) (ok:L.Ok) {g:Operand} {ps:Array Tmp} (hps:ps.toList=L.ps) {f:FuncId} {ga gb aa ab:List G} {ka kb:List Sp} {ca cb:Prop} {assign body:Code} (hg:oJ σ.fr g=some (f,ga,gb)) (hent:aJ Pg f)
  (hca:iG σ.h ka ga=some (ca,aa)) (hcb:iG σ.h kb gb=some (cb,ab)) (hia:imm.imms aa=true) (hib:imm.imms ab=true) (h1:ca) (h2:cb) (it:aA7 Pg f (aa++(.abs::ab)) L.xs L.tail L.pan) (hfr:L.fr=σ.fr) (hdf:L.df=σ.df) (has:L.assign=assign) (hbo:L.body=body) (h0:L.I 0 σ.h σ.A) {d:Nat} (hd:C.lim≤d)
  {Q:GE→Sg E→Prop} (hK:∀e h A,L.K e h A→h d = .none∧Q e ⟨L.fr,upd h d .mark,A,.mark d::L.df⟩) (hP:∀p h A,((L.tail=some p∧L.I L.xs.length h A)∨L.KP p h A)→h d = .none∧Q (.panic p) ⟨L.fr,upd h d .mark,A,.mark d::L.df⟩) (hI:∀h A,L.tail=none→L.I L.xs.length h A→h d = .none∧Q .normal ⟨L.fr,upd h d .mark,A,.mark d::L.df⟩)
  (he:L.pan=true→e=true):qX e C none (.rangeFunc g ps assign body) Q σ:=
 ⟨fun a w H=>uZ fun fn hfn=>aFi L ok hps hg hent hca hcb hia hib h1 h2 it hfr hdf has hbo h0 hd hK hP hI a w H fn fun hp=>hfn (he hp)⟩
end
section
open Go.RowKit
variable {Pg:Program} [Kn Pg] {E:Env Pg} {C:Cx E} {σ:Sg E} {a:Act} {w w':World} {π π':PM} {ρ ρ':RM} {S S':Nat→Prop} {r:Option Nat}
theorem pG {id:Nat}:∀ {gs hs:List G},G.mens id (gs++hs)=(G.mens id gs || G.mens id hs)
 |[],hs=>by simp [G.mens]
 |g::gs,hs=>by simp only [List.cons_append,G.mens,pG,Bool.or_assoc]
theorem Le.freeze {id fz n:Nat} {cs cs1:List G} {ss:List Sp} {c:Prop} (ho:σ.h id = .cells cs fz) (hn:fz≤n) (hn2:n≤cs.length) (hcv:iG σ.h ss (cs.take n)=some (c,cs1)) (hc:c) (h1:bB cs1=true) :
  Le C σ { σ with h:=upd σ.h id (.cells (cs1++cs.drop n) n) }:=fun a w ⟨π,ρ,S,H⟩=>by
 have hid:=H.rel.objs id
 rw [ho] at hid
 obtain ⟨vs,e,hw,hv,hone,hf,hnone⟩:=hid
 have hlen:=hv.length
 let π':PM:=fun b o=>if b=(ρ id).blk then (if o<n then vs[o]? else none) else π b o
 have hle:PM.le π π':=fun b o v hk=>by
  simp only [π']
  split
  ·rename_i e;subst e
   have ho':o<fz:=by
    apply Nat.lt_of_not_le;intro hle
    rw [hnone o hle] at hk;cases hk
   rw [if_pos (by omega)]
   cases hvo:vs[o]? with
   |none=>rw [List.getElem?_eq_none_iff] at hvo;omega
   |some u=>rw [hf o u ho' hvo] at hk;exact hk
  exact hk
 have hrefl:upd ρ id (ρ id)=ρ:=by funext j;unfold upd;split<;>simp_all
 have hnew:aR π ρ E.yv (cs1++cs.drop n) vs:=by
  have h1:=wS H.rel hcv hc (hv.take n)
  have h2:=hv.drop n
  have:=h1.append h2
  rwa [List.take_append_drop] at this
 have T:=H.rel.turn (w':=w) (π':=π') id (ρ id) (.cells (cs1++cs.drop n) n) (Nat.le_refl _) rfl rfl rfl (fun b hb hne=>⟨rfl,?_⟩) hle (fun b o v hk=>?_) (fun _ _ _=>.inl rfl) ?_ (fun b hb=>?_)
 ·obtain ⟨R',T'⟩:=T
  rw [hrefl] at R' T'
  have hne:∀i,σ.h i ≠ .none→upd σ.h id (Ob.cells (cs1++cs.drop n) n) i ≠ .none:=fun i hi=>by
   simp only [upd];split
   ·simp
   exact hi
  refine ⟨π',ρ,S,H.putObj R' T' (fun _ _=>.inl rfl) (fun _ _=>.inl rfl) hne fun j i hm=>?_⟩
  simp only [upd] at hm
  split at hm
  ·simp only [Ob.men,pG,Bool.or_eq_true] at hm
   refine hne i ?_
   rcases hm with hm|hm
   ·exact tJ H.wfh hcv (fun i hm=>H.wfh id i (by rw [ho];exact nM hm)) i hm
   exact H.wfh id i (by rw [ho];exact nN hm)
  exact hne i (H.wfh j i hm)
 ·funext o
  simp only [π']
  rw [if_neg]
  intro e
  exact hne (by rw [ho];simp [bQ,e])
 ·simp only [π'] at hk
  split at hk
  ·rename_i e;subst e
   split at hk
   ·rw [fI hw]
    simpa using hk
   cases hk
  exact H.rel.know _ _ _ hk
 ·rw [hrefl]
  refine ⟨vs,e,hw,hnew.mono hle fun _ _=>.inl rfl,fun c hc=>?_,fun j u hj hu=>?_,fun j hj=>?_⟩
  ·rcases List.mem_append.1 hc with hc|hc
   ·exact fG h1 c hc
   exact hone c (List.mem_of_mem_drop hc)
  ·simp only [π',if_true];rw [if_pos hj];exact hu
  simp only [π',if_true];rw [if_neg (by omega)]
 rw [hrefl] at hb
 rw [ho];exact .inl hb
theorem Le.conv {t:Nat} {s:Sp} {c:Prop} {g:G} (hcv:cvS σ.h s (σ.fr t)=some (c,g)) (hc:c):Le C σ { σ with fr:=upd σ.fr t g }:=fun a w ⟨π,ρ,S,H⟩=>
 ⟨π,ρ,S,H.size,fun k=>by
  show aK π ρ E.yv (upd σ.fr t g k) _
  simp only [upd]
  split
  ·rename_i e;subst e
   exact aC9 H.rel hcv hc (H.vals k)
  ·exact H.vals k,H.defs,H.rel,H.trans,H.step,fun k i hm=>by
  replace hm:(upd σ.fr t g k).men i=true:=hm
  simp only [upd] at hm
  split at hm
  ·exact aDa H.wfh hcv (H.wfr t) i hm
  exact H.wfr k i hm,H.wfh,H.wfd⟩
def yH (fr:Nat→G) (cl:Call):Option GD:=match cl.callee with
 |.value x=>match gev fr x with
  |.p (.fn (.func f) a b)=>some (.call f (a.map .p++cl.args.toList.map (gev fr)) (b.map .p))
  |.fn (.func f) a b=>some (.call f (a++cl.args.toList.map (gev fr)) b)
  |_=>none
 |_=>none
theorem aFj {ops:Array Oper} {o:Oper} {cl:Call} {d:GD} {K:Sg E→Prop} {Q:GE→Sg E→Prop} (ho:o.op = .defer cl) (hw:dO ops σ.fr o=some true) (hd:yH σ.fr cl=some d) (hdst:o.dst=none)
  (hk:K { σ with df:=d::σ.df }):qV C none ops o σ K Q:=by
 intro a w ⟨π,ρ,S,H⟩ K' hK
 have hwt:=fQ H hw
 unfold wpO
 rw [hwt]
 simp only [if_true]
 refine ⟨fun f' hf'=>(by rw [kX (fun cl=>by rw [ho];simp)] at hf';cases hf'),?_⟩
 obtain ⟨dst,op,ty,pos,af,gd⟩:=o
 simp only at ho hdst
 subst ho hdst
 obtain ⟨callee,⟨args⟩,ats⟩:=cl
 have hargs:=aR.map_ev (fP H) args
 have hm:∀id,d.men id=true→σ.h id ≠ .none:=fun id hm=>by
  unfold yH at hd
  split at hd
  ·rename_i x hx
   simp only at hx
   have hx2:=uG H x id
   have ha:∀id,G.mens id (args.map (gev σ.fr))=true→σ.h id ≠ .none:=fun id hm=>by
    obtain ⟨g,hg,hm⟩:=cC.1 hm
    obtain ⟨y,_,rfl⟩:=List.mem_map.1 hg
    exact uG H y id hm
   split at hd
   ·cases hd
    simp only [GD.men,pG,gU,Bool.false_or,Bool.or_false] at hm
    exact ha id hm
   ·rename_i f' as bs he
    cases hd
    rw [he] at hx2
    simp only [GD.men,pG,Bool.or_eq_true] at hm
    rcases hm with (hm|hm)|hm
    ·exact hx2 (by simp [G.men,hm])
    ·exact ha id hm
    exact hx2 (by simp [G.men,hm])
   cases hd
  cases hd
 have hrun:∃dd,(Oper.semAt (MF Pg none).round a.eval ⟨none,.defer ⟨callee,⟨args⟩,ats⟩,ty,pos,af,gd⟩).run Pg w = .ok (.defer dd) w∧aHd π ρ E.yv d dd:=by
  unfold yH at hd
  split at hd
  ·rename_i x hx
   simp only at hx
   subst hx
   have hv:=fP H x
   split at hd
   ·rename_i f' as bs he
    cases hd
    rw [he] at hv
    simp only [aK,aS] at hv
    obtain ⟨us,vs,hv,h1,h2⟩:=hv
    refine ⟨{ target:=.fn (.func f') ⟨vs⟩,args:=⟨us++args.map a.eval⟩ },?_,_,_,rfl,(aR.of_PRels h1).append hargs,aR.of_PRels h2⟩
    rw [show (MF Pg none).round=none from rfl,Oper.semAt_none]
    simp [execOp,resolve,hv,Deferred.ofValue]
   ·rename_i f' as bs he
    cases hd
    rw [he] at hv
    simp only [aK] at hv
    obtain ⟨us,vs,hv,h1,h2⟩:=hv
    refine ⟨{ target:=.fn (.func f') ⟨vs⟩,args:=⟨us++args.map a.eval⟩ },?_,_,_,rfl,h1.append hargs,h2⟩
    rw [show (MF Pg none).round=none from rfl,Oper.semAt_none]
    simp [execOp,resolve,hv,Deferred.ofValue]
   cases hd
  cases hd
 obtain ⟨dd,hrun,hdd⟩:=hrun
 rw [hrun]
 refine hK _ _ _ hk ⟨π,ρ,S,H.size,H.vals,⟨dd,_,rfl,hdd,H.defs⟩,H.rel,H.trans,H.step,H.wfr,H.wfh,fun g hg id hi=>?_⟩
 rcases List.mem_cons.1 hg with rfl|hg
 ·exact hm id hi
 exact H.wfd g hg id hi
def aD5 (π:PM):Option P→FrameMode→Prop
 |none,u=>u = .returning
 |some p,u=>∃v,u = .panicking [{ v,recovered:=false }]∧aS π p v
theorem aD5.run {md:Option P} {u:FrameMode} (h:aD5 π md u):u ≠ .run:=by
 cases md with
 |none=>rw [h];simp
 |some p=>obtain ⟨v,e,hv⟩:=h;rw [e];simp
def lB (E:Env Pg) (f:FuncId) (args:List G) (h:Nat→Ob) (A:E.α) (md:Option P) (R:cL E→Prop):Prop:=
 ∀π ρ S w vs u,Rel E π ρ h A S w→aR π ρ E.yv args vs→aD5 π md u→CallsDIn (MF Pg none) 0 Pg f ⟨vs⟩ u w fun e u' w'=>settle u' = .returning∧qE E π ρ h S w R e w'
def pP:Option P→G
 |none=>.p .niliface
 |some p=>.p p
theorem aBY {md:Option P} {c:Frame} {cs:List Frame} (hm:aD5 π md c.mode) :
  ∃u' v,aK π ρ E.yv (pP md) v∧settle u' = .returning∧((recoverD (c::cs)=some (v,{ c with mode:=u' }::cs))∨(recoverD (c::cs)=none∧v = .nilIface∧u'=c.mode)):=by
 cases md with
 |none=>
  refine ⟨c.mode,.nilIface,by simp [pP,aK,aS],?_,.inr ⟨?_,rfl,rfl⟩⟩
  ·rw [show c.mode = .returning from hm];rfl
  simp only [recoverD,show c.mode = .returning from hm]
 |some p=>
  obtain ⟨v,e,hv⟩:=hm
  refine ⟨.panicking [{ v,recovered:=true }],v,by simpa only [pP,aK] using hv,rfl,.inl ?_⟩
  simp only [recoverD,e]
def qH (o:Oper):Bool:=o.guard.isNone&&match o.op with
 |.call cl=>(match cl.callee with|.builtin .recover=>true|_=>false)
 |_=>false
theorem aD6 {o:Oper} (h:qH o=true) (w:World):(execOp a.eval o).run Pg w = .ok .recover w∧o.about Pg w a.eval=none∧o.guard=none:=by
 obtain ⟨dst,op,ty,pos,af,gd⟩:=o
 simp only [qH,Bool.and_eq_true,Option.isNone_iff_eq_none] at h
 obtain ⟨hg,h⟩:=h
 subst hg
 cases op<;>simp only [Bool.false_eq_true] at h
 rename_i cl
 obtain ⟨callee,args,ats⟩:=cl
 cases callee<;>simp only [Bool.false_eq_true] at h
 rename_i b
 cases b<;>simp only [Bool.false_eq_true] at h
 refine ⟨?_,?_,rfl⟩
 ·simp [execOp,resolve,Deferred.ofValue,invoke,builtin]
 simp [Oper.about,resolve,Target.leads]
theorem vA {ops:Array Oper} {rc:Oper} {rest:List Oper} {id:Nat} {Q:Exit→Act→List Frame→World→Prop} {cs cs':List Frame} {v:Value} (hops:ops.toList=rc::rest) (hrc:qH rc=true)
  (hrec:recoverD cs=some (v,cs')∨(recoverD cs=none∧v = .nilIface∧cs'=cs)) (h:wpListIn (MF Pg none) 0 Pg ops (fun e a w=>Q e a cs' w) rest (a.put rc.dst v) w):(Code.region id ops false).wpSIn (MF Pg none) 0 Pg Q a cs w:=by
 intro b k hb hro hF hroom
 have hlen:cs'.length=cs.length:=by
  rcases hrec with h|⟨_,_,h⟩
  ·exact recoverD_length h
  rw [h]
 have ho:ops[0]? = some rc:=by rw [←Array.getElem?_toList,hops];rfl
 have hsz:ops.size=rest.length+1:=by rw [←Array.length_toList,hops];rfl
 have hrange:List.range ops.size=0::List.range' 1 rest.length:=by rw [List.range_eq_range',hsz,List.range'_succ]
 obtain ⟨hrun,hab,hgd⟩:=aD6 (Pg:=Pg) (a:=a) hrc w
 have hlist:wpOpsIn (MF Pg none) 0 Pg ops (fun e a w=>Q e a cs' w) (List.range' 1 rest.length) (a.put rc.dst v) w:=by
  rw [wpOpsIn_eq_wpListIn rest 1 (fun j=>by rw [←Array.getElem?_toList,hops,Nat.add_comm];simp)]
  exact h
 have s0:StepsIn (Machine.fenced Pg (MF Pg none)) Pg (lone (b.atR a (.code (.region id ops false)::k)) cs w) (lone (b.atR a (.inRegion ops (List.range ops.size)::k)) cs w):=.one (fenced_calm hF hroom rfl) stepR_region
 have hwt:Region.wanted rc (yielded ops a.tmps)=true:=by simp [Region.wanted,hgd]
 have h0:(lone (b.atR a (.inRegion ops (0::List.range' 1 rest.length)::k)) cs w).fenced Pg (MF Pg none):=fenced_oper hF hroom ho (fun f hf=>by rw [hab] at hf;cases hf)
 have hg:=stepGR_op (P:=Pg) (b:=b) (a:=a) (k:=k) (cs:=cs) (w:=w) (rest:=List.range' 1 rest.length) ho hwt
 rw [hro,Oper.semAt_none] at hg
 have hfin:∀v,(b.atR a (.inRegion ops (0::List.range' 1 rest.length)::k)).finish v=b.atR (a.put rc.dst v) (.inRegion ops (List.range' 1 rest.length)::k):=by
  intro v;rw [Frame.finish_atR,ho];rfl
 have hk:(b.atR a (.inRegion ops (0::List.range' 1 rest.length)::k)).kind = .deferred:=hb
 have htr:=tryRecover_deferred hk cs
 have hstep:step Pg (lone (b.atR a (.inRegion ops (0::List.range' 1 rest.length)::k)) cs w) = .next (lone (b.atR (a.put rc.dst v) (.inRegion ops (List.range' 1 rest.length)::k)) cs' w):=by
  refine step_lone_go ?_
  rw [hg,←hfin]
  simp only [Frame.atR,hro] at htr ⊢
  rcases hrec with hr|⟨hr,rfl,rfl⟩
  ·simp [stepG.apply,hrun,htr,hr]
  simp [stepG.apply,hrun,htr,hr]
 obtain ⟨e,a',w',hq,harr⟩:=wp_opsIn _ _ _ hlist b k cs' hro hF (hlen ▸ hroom)
 rw [hrange] at s0
 exact ⟨e,a',cs',w',hlen,hq,.of_steps (StepsIn.trans s0 (.one h0 hstep)) harr⟩
end
section
open Go.RowKit
variable {Pg:Program} [Kn Pg] {E:Env Pg} {C:Cx E} {σ:Sg E} {a:Act} {w w':World} {π π':PM} {ρ ρ':RM} {S S':Nat→Prop} {r:Option Nat}
theorem Fin.out {fn:Func} {R:cL E→Prop} {h:Nat→Ob} {N:Nat} {hl:N≤90000} (h100:N=100) (hF:Fin Pg fn R σ) (H:St (⟨Own ρ h S,w,π,ρ,fn.ntmps,N,hl⟩:Cx E) σ a w' π' ρ' S') :
  a.defers=[]∧∃v,(results fn a.tmps).run Pg w' = .ok v w'∧qE E π ρ h S w R (.returned v) w':=by
 subst h100
 obtain ⟨hdf,c,g,hg,hc,g',h',hgg,hs,hm',hR⟩:=hF
 have hd:=H.defs
 rw [hdf] at hd
 obtain ⟨⟨v,hv,hr⟩,hm⟩:=aA0 H hg hc
 have hr':aK π' ρ' E.yv g' v:=by
  rcases hgg with rfl|⟨c',p,h1,h2,rfl⟩
  ·exact hr
  simp only [aK];exact fJ H.rel h1 h2 hr
 exact ⟨hd,v,hv,π',ρ',h',σ.A,S',g',lJ.sub ⟨H.rel,H.trans,H.step,H.wfh⟩ hs,hr',hm',hR⟩
def aI9 (Pg:Program) [Kn Pg] {E:Env Pg} (fn:Func) (R:cL E→Prop):GE→Sg E→Prop
 |.normal,σ=>Fin Pg fn R σ
 |.ret,σ=>Fin Pg fn R σ
 |_,_=>False
def aM6 (rc:Oper) (args:List G) (h:Nat→Ob) (A:E.α) (md:Option P):Sg E:=⟨vO (aBW args) rc.dst (pP md),h,A,[]⟩
theorem aHq {F:Fence} {n:Nat} {o:Oper} {K K':Act→World→Prop} {Q Q':Exit→Act→World→Prop} (h:∀a w,K a w→K' a w) (hq:∀e a w,Q e a w→Q' e a w) (hh:o.wpIn F n Pg a w K Q):o.wpIn F n Pg a w K' Q':=by
 unfold Oper.wpIn at *
 refine ⟨hh.1,?_⟩
 have hh:=hh.2
 have hl:LetsOut Q→LetsOut Q':=fun ⟨a,w,k⟩=>⟨a,w,hq _ _ _ k⟩
 generalize (o.semAt F.round a.eval).run Pg w=r at *
 cases r with
 |ok x w'=>
  cases x<;>simp only [Oper.uponIn] at hh ⊢<;>
   first
    |exact h _ _ hh
    |exact ⟨hh.1,CallsIn.mono hh.2 (fun e w'' he=>by cases e<;>first|exact h _ _ he|exact hq _ _ _ he|exact hl he)⟩
    |exact ⟨hh.1,RowsIn.mono hh.2 (fun _ _ he=>h _ _ he)⟩
    |exact ⟨hh.1,RoundIn.mono hh.2 (fun e w'' he=>by cases e<;>first|exact h _ _ he|exact hq _ _ _ he|exact hl he)⟩
 |halt x w'=>cases x<;>simp only [Oper.uponIn] at hh ⊢<;>first|exact hq _ _ _ hh|exact hh
theorem kU {ops:Array Oper} {Q Q':Exit→Act→World→Prop} (hq:∀e a w,Q e a w→Q' e a w):∀ {l:List Oper} {a:Act} {w:World},wpListIn (MF Pg none) 0 Pg ops Q l a w→wpListIn (MF Pg none) 0 Pg ops Q' l a w
 |[],a,w,h=>hq _ _ _ h
 |o::l,a,w,h=>by
  simp only [wpListIn] at h ⊢
  split at h
  ·rename_i hw;rw [if_pos hw]
   exact aHq (fun a w k=>kU hq k) hq h
  rename_i hw;rw [if_neg hw]
  exact ⟨h.1,kU hq h.2⟩
def aL6 (id:Nat) (ops:Array Oper):Option Code→Code
 |none=>.region id ops false
 |some c2=>.seq (.region id ops false) c2
def aL7 (C:Cx E) (fn:Func) (R:cL E→Prop):Option Code→GE→Sg E→Prop
 |none=>aI9 Pg fn R
 |some c2=>rT (gwp C none c2 (aI9 Pg fn R)) (aI9 Pg fn R)
theorem aFk {f:FuncId} {fn:Func} {c:Code} {args:List G} {h:Nat→Ob} {A:E.α} {md:Option P} {R:cL E→Prop} {id:Nat} {ops:Array Oper} {rc:Oper} {rest:List Oper} (hf:Pg.funcs[f]? = some fn) (hb:fn.body=some c)
  (hops:ops.toList=rc::rest) (hrc:qH rc=true) (hN:args.length≤fn.ntmps) (hdst:∀t,rc.dst=some t→t<fn.ntmps) (w1:∀g∈args,∀id,g.men id=true→h id ≠ .none) (w2:∀j id,(h j).men id=true→h id ≠ .none)
  (c2:Option Code) (hc:c=aL6 id ops c2)
  (hbody:∀C:Cx E,C.N=fn.ntmps→C.lim=100→cK C none ops (aL7 C fn R c2) rest (aM6 rc args h A md)):lB E f args h A md R:=by
 intro π ρ S w vs u hR hv hm
 refine callsDIn_of_wpSIn hf hb trivial fun c0 cs hu=>?_
 have hs:=St.start (f:=f) hR hv hN w1 w2
 let C:Cx E:=⟨Own ρ h S,w,π,ρ,fn.ntmps,100,by omega⟩
 obtain ⟨u',v,hrv,hset,hrec⟩:=aBY (E:=E) (ρ:=ρ) (c:=c0) (cs:=cs) (md:=md) (hu ▸ hm)
 have hs2:=hs.putReg (dst:=rc.dst) (g:=pP md) (v:=v) (fun t ht=>hdst t ht) hrv (fun id hx=>by cases md<;>simp [pP,G.men] at hx)
 have hrec2:recoverD (c0::cs)=some (v,{ c0 with mode:=u' }::cs)∨(recoverD (c0::cs)=none∧v = .nilIface∧{ c0 with mode:=u' }::cs=c0::cs):=by
  rcases hrec with h|⟨h,e,rfl⟩
  ·exact .inl h
  exact .inr ⟨h,e,rfl⟩
 have hrun:=(hbody C rfl rfl).run (Act.put { tmps:=⟨vs⟩++Array.replicate (fn.ntmps - (Array.mk vs).size) undef,defers:=[] } rc.dst v) w ⟨π,ρ,S,hs2⟩
 have fin:∀(e:Exit) a' w',cE C (aI9 Pg fn R) e a' w'→bodyPostS Pg fn c0 cs (fun e u' w'=>settle u' = .returning∧qE E π ρ h S w R e w') e a' ({ c0 with mode:=u' }::cs) w':=fun e a' w' k=>by
  cases e with
  |normal=>
   obtain ⟨σ,⟨π',ρ',S',H⟩,hq⟩:=k
   obtain ⟨hd,v,hv,hp⟩:=Fin.out rfl hq H
   exact ⟨hd,u',rfl,v,hv,hset,hp⟩
  |ret=>
   obtain ⟨σ,⟨π',ρ',S',H⟩,hq⟩:=k
   obtain ⟨hd,v,hv,hp⟩:=Fin.out rfl hq H
   exact ⟨hd,u',rfl,v,hv,hset,hp⟩
  |panic ch=>obtain ⟨_,_,_,_,_,_,_,_,_,hq⟩:=k;exact hq.elim
  |exit id=>obtain ⟨_,_,hq⟩:=k;exact hq.elim
  |goto id=>obtain ⟨_,_,hq⟩:=k;exact hq.elim
  |outgrown=>exact k.elim
 cases c2 with
 |none=>
  subst hc
  refine vA hops hrc hrec2 ?_
  refine kU (fun e a' w' k=>fin e a' w' k) hrun
 |some c2=>
  subst hc
  refine wpSIn_seq (vA hops hrc hrec2 (kU (fun e a' w' k=>?_) hrun))
  cases e with
  |normal=>
   obtain ⟨σ1,H1,hq⟩:=k
   exact wpSIn_of_wpIn rfl (wpIn_mono (gwp.run hq a' w' H1) fun e a' w' k=>fin e a' w' k)
  |panic ch=>obtain ⟨_,_,_,_,_,_,_,_,_,hq⟩:=k;exact hq.elim
  |exit id=>obtain ⟨_,_,hq⟩:=k;exact hq.elim
  |goto id=>obtain ⟨_,_,hq⟩:=k;exact hq.elim
  |ret=>exact fin .ret _ _ k
  |outgrown=>exact k.elim
def qY (Pg:Program) [Kn Pg] {E:Env Pg} (fn:Func) (R:cL E→Prop):List GD→Option P→(Nat→G)→(Nat→Ob)→E.α→Prop
 |[],none,fr,h,A=>Fin Pg fn R ⟨fr,h,A,[]⟩
 |[],some p,fr,h,A=>∃h',Sub h' h∧R (.panic p h' A)
 |.mark id::ds,md,fr,h,A=>h id = .mark∧(∀t,(fr t).men id=false)∧(∀j,(h j).men id=false)∧(∀g∈ds,g.men id=false)∧qY Pg fn R ds md fr (upd h id .none) A
 |.call f args caps::ds,md,fr,h,A=>aJ Pg f∧∃J c args' L hc R2,oB (rhp h J) (args++caps)=(c,G.rens (dB L) args')∧c∧kZ 100 L h hc∧lB E f args' hc A md R2 ∧
   (∀g h' A',R2 (.ok g h' A')→gK L hc h'∧qY Pg fn R ds none fr (cU h (cR L h')) A')∧∀p h' A',¬R2 (.panic p h' A')
theorem jE {fn:Func} {R:cL E→Prop} {h:Nat→Ob} {N:Nat} {hl:N≤90000} (h100:N=100):∀(df:List GD) {md:Option P} {fr:Nat→G} {h1:Nat→Ob} {A1:E.α} {ds:List Deferred} {u:FrameMode} {w':World} {π':PM} {ρ':RM} {S':Nat→Prop},
  qY Pg fn R df md fr h1 A1→St (⟨Own ρ h S,w,π,ρ,fn.ntmps,N,hl⟩:Cx E) ⟨fr,h1,A1,df⟩ ⟨a.tmps,ds⟩ w' π' ρ' S'→aD5 π' md u→LeavesInM (MF Pg none) 0 Pg fn a.tmps (qE E π ρ h S w R) ds u w'
 |[],none,fr,h1,A1,ds,u,w',π',ρ',S',hG,H,hm=>by
  obtain ⟨hd,v,hv,hp⟩:=Fin.out h100 hG H
  have hd:ds=[]:=hd
  have hu:u = .returning:=hm
  subst hd hu
  exact ⟨v,hv,hp⟩
 |[],some p,fr,h1,A1,ds,u,w',π',ρ',S',hG,H,hm=>by
  have hd:ds=[]:=H.defs
  subst hd
  obtain ⟨v,rfl,hv⟩:=hm
  obtain ⟨h',hs,hR⟩:=hG
  subst h100
  exact ⟨π',ρ',h',A1,S',p,v,lJ.sub ⟨H.rel,H.trans,H.step,H.wfh⟩ hs,rfl,hv,hR⟩
 |.mark id::df,md,fr,h1,A1,ds,u,w',π',ρ',S',hG,H,hm=>by
  obtain ⟨g1,g2,g3,g4,g5⟩:=hG
  obtain ⟨d,ds',hds,hd,hrest⟩:=H.defs
  have hds:ds=d::ds':=hds
  subst hds
  simp only [aHd] at hd
  subst hd
  have hob:kI π' ρ' E.yv w' id (h1 id):=H.rel.objs id
  rw [g1] at hob
  have hlt:=(Array.getElem?_eq_some_iff.1 hob).1
  refine ⟨hm.run,.inl ⟨_,_,rfl,run_takeDeferred hob,?_⟩⟩
  have hrefl:upd ρ' id (ρ' id)=ρ':=by funext j;unfold upd;split<;>simp_all
  have T:=H.rel.turn (w':=w'.putObj (ρ' id).blk (.deferred none)) (π':=π') id (ρ' id) .none (by simp) rfl rfl rfl (fun b _ hne=>⟨World.putObj_heap_other fun e=>hne (by show bQ ρ' id (h1 id)=some b;rw [g1];simp [bQ,e]),rfl⟩) (PM.le_refl _)
   (wR H.rel.know fun o ho=>by rw [hob] at ho;cases ho;rfl) (fun _ _ _=>.inl rfl) trivial (fun b hb=>by simp [bQ] at hb)
  rw [hrefl] at T
  have hne:∀i,i≠id→h1 i ≠ .none→upd h1 id Ob.none i ≠ .none:=fun i hi h=>by rw [aZ _ _ hi];exact h
  refine jE h100 df g5 (S':=S') ⟨H.size,H.vals,hrest,T.1,H.trans.trans T.2,H.step,fun t i hx=>hne i (fun e=>?_) (H.wfr t i hx),fun j i hx=>?_,fun g hg i hx=>hne i (fun e=>?_) (H.wfd g (List.mem_cons_of_mem _ hg) i hx)⟩ hm
  ·subst e;rw [g2 t] at hx;cases hx
  ·simp only [upd] at hx
   split at hx
   ·simp [Ob.men] at hx
   exact hne i (fun e=>by subst e;rw [g3 j] at hx;cases hx) (H.wfh j i hx)
  subst e;rw [g4 g hg] at hx;cases hx
 |.call f args caps::df,md,fr,h1,A1,ds,u,w',π',ρ',S',hG,H,hm=>by
  obtain ⟨hent,J,c,args',L,hc,R2,hcv,hcc,hp,hspec,hok,hpa⟩:=hG
  obtain ⟨d,ds',hds,hd,hrest⟩:=H.defs
  have hds:ds=d::ds':=hds
  subst hds
  obtain ⟨vs,us,rfl,hvs,hus⟩:=hd
  have hv:=aAr (H.rel.restrict J) (hvs.append hus) (by rw [hcv];exact hcc)
  rw [hcv] at hv
  subst h100
  have H0:St (⟨Own ρ h S,w,π,ρ,fn.ntmps,100,hl⟩:Cx E) ⟨fr,h1,A1,df⟩ ⟨a.tmps,ds'⟩ w' π' ρ' S':=⟨H.size,H.vals,hrest,H.rel,H.trans,H.step,H.wfr,H.wfh,fun g hg=>H.wfd g (List.mem_cons_of_mem _ hg)⟩
  refine ⟨hm.run,.inr ⟨fun h=>by simp [Fence.wide] at h,_,_,f,⟨vs++us⟩,rfl,?_,fun _ _=>trivial,?_⟩⟩
  ·have:=hent (⟨vs++us⟩) w'
   simpa [invoke] using this
  refine (hspec π' _ S' w' (vs++us) u (H.rel.hand hp) (gH.1 hv) hm).mono fun e u' w2 ⟨hset,k⟩=>?_
  cases e with
  |outgrown=>exact k.elim
  |panicked ch=>obtain ⟨_,_,_,_,_,_,_,_,_,_,hq⟩:=k;exact (hpa _ _ _ hq).elim
  |returned v=>
   obtain ⟨π2,ρ2,h',A',S2,g,hB,_,_,hR2⟩:=k
   obtain ⟨hb,hG2⟩:=hok g h' A' hR2
   exact jE rfl df hG2 (H0.back hp hb hB) hset
def aFl (Pg:Program) [Kn Pg] {E:Env Pg} (fn:Func) (R:cL E→Prop):GE→Sg E→Prop
 |.normal,σ=>qY Pg fn R σ.df none σ.fr σ.h σ.A
 |.ret,σ=>qY Pg fn R σ.df none σ.fr σ.h σ.A
 |.panic p,σ=>qY Pg fn R σ.df (some p) σ.fr σ.h σ.A
 |_,_=>False
theorem aJa {f:FuncId} {fn:Func} {c:Code} {args:List G} {h:Nat→Ob} {A:E.α} {R:cL E→Prop} (hf:Pg.funcs[f]? = some fn) (hb:fn.body=some c) (hN:args.length≤fn.ntmps) (w1:∀g∈args,∀id,g.men id=true→h id ≠ .none)
  (w2:∀j id,(h j).men id=true→h id ≠ .none) (hbody:∀C:Cx E,C.N=fn.ntmps→C.lim=100→gwp C none c (aFl Pg fn R) ⟨aBW args,h,A,[]⟩):bD E f args h A R:=by
 intro π ρ S w vs hR hv
 refine callsIn_of_wp_marks hf hb trivial ?_
 have hs:=St.start (f:=f) hR hv hN w1 w2
 refine wpIn_mono ((hbody ⟨Own ρ h S,w,π,ρ,fn.ntmps,100,by omega⟩ rfl rfl).run _ _ ⟨π,ρ,S,hs⟩) fun e a' w' k=>?_
 cases e with
 |normal=>obtain ⟨σ,⟨π',ρ',S',H⟩,hq⟩:=k;exact jE rfl σ.df hq H rfl
 |ret=>obtain ⟨σ,⟨π',ρ',S',H⟩,hq⟩:=k;exact jE rfl σ.df hq H rfl
 |panic ch=>
  obtain ⟨σ,p,v,π',ρ',S',rfl,hp,H,hq⟩:=k
  exact jE rfl σ.df hq H ⟨v,rfl,hp⟩
 |exit id=>obtain ⟨σ,_,hq⟩:=k;exact hq.elim
 |goto l=>obtain ⟨σ,_,hq⟩:=k;exact hq.elim
 |outgrown=>exact k.elim
theorem aJb {f:FuncId} {fn:Func} {c:Code} {args:List G} {h:Nat→Ob} {A:E.α} {R:cL E→Prop} (hf:Pg.funcs[f]? = some fn) (hb:fn.body=some c) (hN:args.length≤fn.ntmps) (w1:∀g∈args,∀id,g.men id=true→h id ≠ .none)
  (w2:∀j id,(h j).men id=true→h id ≠ .none) (hbody:∀C:Cx E,C.N=fn.ntmps→C.lim=100→qX true C none c (aFl Pg fn R) ⟨aBW args,h,A,[]⟩):bD E f args h A R:=by
 intro π ρ S w vs hR hv
 refine aBc hf hb ?_
 have hs:=St.start (f:=f) hR hv hN w1 w2
 refine aBb ((hbody ⟨Own ρ h S,w,π,ρ,fn.ntmps,100,by omega⟩ rfl rfl).run _ _ ⟨π,ρ,S,hs⟩) fun e a' w' k=>?_
 cases e with
 |normal=>obtain ⟨σ,⟨π',ρ',S',H⟩,hq⟩:=k;exact jE rfl σ.df hq H rfl
 |ret=>obtain ⟨σ,⟨π',ρ',S',H⟩,hq⟩:=k;exact jE rfl σ.df hq H rfl
 |panic ch=>
  obtain ⟨σ,p,v,π',ρ',S',rfl,hp,H,hq⟩:=k
  exact jE rfl σ.df hq H ⟨v,rfl,hp⟩
 |exit id=>obtain ⟨σ,_,hq⟩:=k;exact hq.elim
 |goto l=>obtain ⟨σ,_,hq⟩:=k;exact hq.elim
 |outgrown=>exact k.elim
end
section
open Go.RowKit
variable {Pg:Program} [Kn Pg] {E:Env Pg} {C:Cx E} {r:Option Nat} {ops:Array Oper} {Q:GE→Sg E→Prop} {l l':List (Nat×G)} {m m':List (Nat×Ob)} {A:E.α} {df:List GD} {σ σ0:Sg E} {c:Code} {rest:List Oper} {cp:Prop}
theorem aHr (id n:Nat) (ss:List Sp) {cs cs1 cs2:List G} {fz:Nat} (ho:aG m id = .cells cs fz) (hcv:iG (aG m) ss (cs.take n)=some (cp,cs1)) (he:cs1++cs.drop n=cs2) (hn:fz≤n) (hn2:n≤cs.length) (hc:cp) (h1:bB cs1=true)
  (k:gwp C r c Q (sg l ((id,.cells cs2 n)::m) A df)):gwp C r c Q (sg l m A df):=
 oC (Le.freeze (σ:=sg l m A df) ho hn hn2 hcv hc h1) (by subst he;exact k)
theorem aK9 (t:Nat) (s:Sp) {g:G} (hcv:cvS (aG m) s (bA l t)=some (cp,g)) (hc:cp) (k:gwp C r c Q (sg ((t,g)::l) m A df)):gwp C r c Q (sg l m A df):=oC (Le.conv (σ:=sg l m A df) hcv hc) k
theorem aLa {lst:List Oper} (t:Nat) (s:Sp) {g:G} (hcv:cvS (aG m) s (bA l t)=some (cp,g)) (hc:cp) (k:cK C r ops Q lst (sg ((t,g)::l) m A df)):cK C r ops Q lst (sg l m A df):=aCZ (Le.conv (σ:=sg l m A df) hcv hc) k
section
variable {b:Frame} {a:Act} {k:List Item} {cs:List Frame} {w:World} {F:Fence} {n:Nat}
theorem jF {c:Code}:step Pg (lone (b.atR a (.code (.scope c)::k)) cs w) = .next (lone (b.atR a (.code c :: .inScope c::k)) cs w):=step_lone_go (by simp [stepG,stepG.exec,Frame.atR])
theorem aBZ {c:Code}:step Pg (lone (b.atR a (.inScope c::k)) cs w) = .next (lone (b.atR a k) cs w):=step_lone_go (by simp [stepG,stepG.exec,Frame.atR])
def aM7 (Q:Exit→Act→World→Prop):Exit→Act→World→Prop
 |.goto _,_,_=>False
 |e,a,w=>Q e a w
theorem aFm {c:Code} {Q:Exit→Act→World→Prop} (h:c.wpIn F n Pg (aM7 Q) a w):(Code.scope c).wpIn F n Pg Q a w:=by
 intro b k cs hro hb hr
 have h0:(lone (b.atR a (.code (.scope c)::k)) cs w).fenced Pg F:=fenced_calm hb hr rfl
 obtain ⟨e,a₁,w₁,hq,harr⟩:=h b (.inScope c::k) cs hro hb hr
 cases e with
 |normal=>exact ⟨.normal,a₁,w₁,hq,.head h0 jF (StepsIn.trans harr (.one (fenced_calm hb hr rfl) aBZ))⟩
 |exit id'=>
  have hx:exitTo id' (.inScope c::k)=exitTo id' k:=by simp [exitTo]
  exact ⟨.exit id',a₁,w₁,hq,fun k' hk=>.head h0 jF (harr.1 k' (by rw [hx];exact hk)),
   fun hr' hk=>let ⟨k₁,h1,h2⟩:=harr.2 hr' (by rw [hx];exact hk);⟨k₁,h1,.head h0 jF h2⟩⟩
 |goto l=>exact hq.elim
 |ret=>exact ⟨_,a₁,w₁,hq,.of_steps (.one h0 jF) harr⟩
 |panic ch=>exact ⟨_,a₁,w₁,hq,.of_steps (.one h0 jF) harr⟩
 |outgrown=>exact ⟨_,a₁,w₁,hq,.of_steps (.one h0 jF) harr⟩
end
def wT (Q:GE→Sg E→Prop):GE→Sg E→Prop
 |.goto _,_=>False
 |e,σ=>Q e σ
theorem aCk (h:gwp C r c (wT Q) σ):gwp C r (.scope c) Q σ:=⟨fun a w H=>aFm (wpIn_mono (h.run a w H) fun e a' w' k=>by
 cases e with
 |goto l=>obtain ⟨_,_,hq⟩:=k;exact hq.elim
 |_=>exact k)⟩
theorem aD (h:Q .ret σ):wT Q .ret σ:=h
theorem bP (h:Q .normal σ):wT Q .normal σ:=h
theorem aY {i:Nat} (h:Q (.exit i) σ):wT Q (.exit i) σ:=h
theorem aW {p:P} (h:Q (.panic p) σ):wT Q (.panic p) σ:=h
theorem aJc {cl:Call} {d:GD} {ty:TypeId} {pos:String} {af:Array Edge} (hd:yH (bA l) cl=some d) (k:cK C none ops Q rest (sg l m A (d::df))):cK C none ops Q (⟨none,.defer cl,ty,pos,af,none⟩::rest) (sg l m A df):=
 pN (aFj (o:=⟨none,.defer cl,ty,pos,af,none⟩) rfl (bN rfl) hd rfl k)
theorem aJd {cl:Call} {gs:List G} {xs:List P} {J:List Nat} {x:Operand} {t:Nat} {ty:TypeId} {pos:String} {af:Array Edge} (hx:cl.callee = .value x) (hy:gev (bA l) x = .abs) (hgs:cl.args.toList.map (gev (bA l))=gs)
  (hcv:oB (rhp (aG m) J) gs=(cp,xs.map .p)) (hc:cp) (hcan:E.Can A (xs.map Y0.p)) (ht:t<C.N) (hk:∀b A',E.Y A (xs.map Y0.p) (.b b) A'→cK C r ops Q rest (sg ((t,.p (.bool b))::l) m A' df)) (hpa:∀p A',E.Y A (xs.map Y0.p) (.p p) A'→Q (.panic p) (sg l m A' df)) :
  cK C r ops Q (⟨some t,.call cl,ty,pos,af,none⟩::rest) (sg l m A df):=
 pN (aFg (o:=⟨some t,.call cl,ty,pos,af,none⟩) (σ:=sg l m A df) rfl hx (bN rfl) hy hgs hcv hc hcan (fun t' e=>by cases e;exact ht) (fun b A' h=>hk b A' h) (fun p A' h=>hpa p A' h))
theorem kO (l:List P) (i:Nat) (v:P):(l.map G.p).set i (.p v)=(l.set i v).map G.p:=by rw [List.map_set]
theorem gZ (k:IntKind) (l:List Int) (i:Nat) (x:Int):(l.map (P.int k)).set i (.int k x)=(l.set i x).map (P.int k):=by rw [List.map_set]
theorem eqI {a b:Int}:a=b↔(a≤b∧b≤a):=by omega
theorem aCl {i:Nat}:∀ {m:List (Nat×Ob)},aG m i ≠ .none→i∈m.map (·.1)
 |[],h=>absurd rfl h
 |(j,o)::m,h=>by
  rw [aF] at h
  simp only [List.map_cons,List.mem_cons]
  split at h
  ·exact .inl (by assumption)
  exact .inr (aCl h)
theorem aM8 {args:List G} {id:Nat} (h1:dP (G.idls args) (m.map (·.1))=true) (h2:∀i∈m.map (·.1),aG m i ≠ .none) (h:G.mens id args=true):aG m id ≠ .none:=by
 simp only [dP,List.all_eq_true,decide_eq_true_eq] at h1
 exact h2 id (h1 id (gY h))
theorem aM9 {j id:Nat} (h1:dP (bO m (m.map (·.1))) (m.map (·.1))=true) (h2:∀i∈m.map (·.1),aG m i ≠ .none) (h:(aG m j).men id=true):aG m id ≠ .none:=by
 simp only [dP,List.all_eq_true,decide_eq_true_eq] at h1
 refine h2 id (h1 id (pO (aCl fun e=>?_) h))
 rw [e] at h;simp [Ob.men] at h
def zR (m:List (Nat×Ob)) (N:Nat):Bool:=m.all fun p=>decide (p.1<N)
theorem aCm {N i:Nat} (h:zR m N=true) (hi:aG m i ≠ .none):i<N:=by
 obtain ⟨p,hp,rfl⟩:=List.mem_map.1 (aCl hi)
 simpa using List.all_eq_true.1 h p hp
def zS (m:List (Nat×Ob)) (I:List Nat):Prop:=∀i∈I,aG m i ≠ .none
structure wU (l:List (Nat×G)) (df:List GD) (lim d:Nat) (m:List (Nat×Ob)):Prop where
 fr:zS m (eL l)
 df:zS m (dM df)
 lt:zR m lim=true
 d:aG m d = .none
theorem wU.wf {L:Lo C} {lim d:Nat} (h:wU l df lim d m) (hf:L.fr=bA l) (hd:L.df=df):L.wf (aG m):=by
 refine ⟨fun t id hm=>h.fr id (aC2 (hf ▸ hm)),fun g hg id hm=>h.df id (yD (hd ▸ hg) hm)⟩
theorem aHs {Z:Type} {e:Bool} {ps:Array Nat} {g:Operand} {assign body:Code} {f:FuncId} {ga gb aa ab:List G} {ca cb:Prop} (lim d:Nat) (psl:List Nat) (xs:List (List Y0)) (tail:Option P) (pan:Bool) (I:Nat→Z→E.α→Prop) (mI:Z→List (Nat×Ob)) (K:GE→Z→E.α→Prop) (mK:GE→Z→List (Nat×Ob)) (KP:P→Z→E.α→Prop) (mP:P→Z→List (Nat×Ob)) (ka kb:List Sp)
  (it:aA7 Pg f (aa++(.abs::ab)) xs tail pan) (hent:aJ Pg f) (hg:oJ (bA l) g=some (f,ga,gb)) (hca:iG (aG m) ka ga=some (ca,aa)) (hcb:iG (aG m) kb gb=some (cb,ab)) (hia:imm.imms aa=true) (hib:imm.imms ab=true) (h1:ca) (h2:cb)
  (hps:ps.toList=psl) (hlim:C.lim≤lim) (hlim2:lim≤90000) (hpn:∀p∈psl,p<C.N) (hlen:∀x∈xs,x.length=psl.length) (hd:C.lim≤d) (wI:∀k z A,I k z A→wU l df lim d (mI z)) (wK:∀e z A,K e z A→wU l df lim d (mK e z)) (hshp:∀x∈xs,(∃ys:List P,x=ys.map Y0.p)∨∃cs,x=[.o cs]) (wP:∀p z A,KP p z A→pan=true∧wU l df lim d (mP p z))
  (h0:∃z,I 0 z A∧mI z=m)
  (round:∀k z A' x,I k z A'→xs[k]? = some x→∀(lp:Nat) (bs:List (Nat×Obj)) (C1:Cx (E.guard bs)),C1.N=C.N→C1.lim=lim →
   gwp C1 (some lp) assign (fun e σ=>e = .normal∧∀(bs:List (Nat×Obj)) (C2:Cx (E.guard bs)),C2.N=C.N→C2.lim=lim→(∃r0,(lp,Obj.loop r0)∈bs)→gwp C2 (some lp) body (fun e σ=>match e with
    |.normal=>∃σ3 z,Le C2 σ σ3∧σ3.h=aG (mI z)∧I (k+1) z σ3.A
    |.panic p=>σ.df=[]∧∃z,Sub (aG (mP p z)) σ.h∧KP p z σ.A
    |e=>∃σ3 z,Le C2 σ σ3∧σ3.h=aG (mK e z)∧K e z σ3.A) ⟨σ.fr,σ.h,σ.A,σ.df⟩) ⟨aAg (bA l) psl x,qG (aG (mI z)) x,A',[]⟩)
  (hK:∀e z A',K e z A'→Q e (sg l ((d,.mark)::mK e z) A' (.mark d::df))) (hP:∀p z A',KP p z A'→Q (.panic p) (sg l ((d,.mark)::mP p z) A' (.mark d::df))) (hT:∀p z A',tail=some p→I xs.length z A'→Q (.panic p) (sg l ((d,.mark)::mI z) A' (.mark d::df))) (hI:∀z A',tail=none→I xs.length z A'→Q .normal (sg l ((d,.mark)::mI z) A' (.mark d::df)))
  (he:pan=true→e=true):qX e C none (.rangeFunc g ps assign body) Q (sg l m A df):=by
 let L:Lo C:={ fr:=bA l,df:=df,ps:=psl,assign,body,xs,tail,pan,lim,KP:=fun p h A=>∃z,h=aG (mP p z)∧KP p z A,I:=fun k h A=>∃z,h=aG (mI z)∧I k z A,K:=fun e h A=>∃z,h=aG (mK e z)∧K e z A }
 have ok:L.Ok:=by
  refine ⟨hlim,hlim2,hpn,hlen,hshp,?_,?_,?_,?_⟩
  ·rintro k h A ⟨z,rfl,hI⟩
   exact ⟨(wI k z A hI).wf (L:=L) rfl rfl,fun id=>aCm (wI k z A hI).lt⟩
  ·rintro e h A ⟨z,rfl,hK⟩
   exact (wK e z A hK).wf (L:=L) rfl rfl
  ·rintro p h A ⟨z,rfl,hK⟩
   exact ⟨(wP p z A hK).1,(wP p z A hK).2.wf (L:=L) rfl rfl⟩
  rintro k h A x ⟨z,rfl,hI⟩ hx lp bs C1 hN hL
  refine qC (round k z A x hI hx lp bs C1 hN hL) fun e σ1 hq=>?_
  obtain ⟨rfl,hq⟩:=hq
  intro bs C2 hN2 hL2 hr
  refine qC (hq bs C2 hN2 hL2 hr) fun e σ hq=>?_
  cases e with
  |normal=>obtain ⟨σ3,z,h1,h2,h3⟩:=hq;exact ⟨σ3,h1,z,h2,h3⟩
  |panic p=>obtain ⟨hd0,z,h1,h2⟩:=hq;exact ⟨hd0,_,h1,z,rfl,h2⟩
  |exit i=>obtain ⟨σ3,z,h1,h2,h3⟩:=hq;exact ⟨σ3,h1,z,h2,h3⟩
  |goto i=>obtain ⟨σ3,z,h1,h2,h3⟩:=hq;exact ⟨σ3,h1,z,h2,h3⟩
  |ret=>obtain ⟨σ3,z,h1,h2,h3⟩:=hq;exact ⟨σ3,h1,z,h2,h3⟩
 obtain ⟨z0,hz0,hm0⟩:=h0
 refine aHp (d:=d) L ok hps hg hent hca hcb hia hib h1 h2 it rfl rfl rfl rfl ⟨z0,by rw [hm0],hz0⟩ hd ?_ ?_ ?_ he
 ·rintro e h A ⟨z,rfl,hk⟩
  exact ⟨(wK e z A hk).d,hK e z A hk⟩
 ·rintro p h A (⟨ht,z,rfl,hi⟩|⟨z,rfl,hk⟩)
  ·exact ⟨(wI _ z A hi).d,hT p z A ht hi⟩
  exact ⟨(wP p z A hk).2.d,hP p z A hk⟩
 rintro h A ht ⟨z,rfl,hi⟩
 exact ⟨(wI _ z A hi).d,hI z A ht hi⟩
theorem aD7 {fn:Func} {R:cL E→Prop} {v:P} (I:List Nat) (hm:bS I m=m') (h3:dP (bO m I) I=true) (hR:R (.panic v (aG m') A)) (hne:∀i∈I,aG m i ≠ .none):aCY Pg fn R (.panic v) (sg l m A []):=by
 simp only [dP,List.all_eq_true,decide_eq_true_eq] at h3
 subst hm
 refine ⟨rfl,_,⟨fun id=>?_,fun j id hx=>?_⟩,hR⟩
 ·rw [dQ];split
  ·exact .inl rfl
  exact .inr rfl
 rw [dQ] at hx ⊢
 split at hx
 ·rename_i hj
  have:=h3 id (pO hj hx)
  rw [if_pos this];exact hne id this
 simp [Ob.men] at hx
theorem tK {fn:Func} {R:cL E→Prop} (h:qY Pg fn R df none (bA l) (aG m) A):aFl Pg fn R .ret (sg l m A df):=h
theorem aD8 {fn:Func} {R:cL E→Prop} (h:qY Pg fn R df none (bA l) (aG m) A):aFl Pg fn R .normal (sg l m A df):=h
theorem bM {fn:Func} {R:cL E→Prop} {p:P} (h:qY Pg fn R df (some p) (bA l) (aG m) A):aFl Pg fn R (.panic p) (sg l m A df):=h
theorem cM {fn:Func} {R:cL E→Prop} (h:Fin Pg fn R (sg l m A [])):qY Pg fn R [] none (bA l) (aG m) A:=h
theorem aCn {fn:Func} {R:cL E→Prop} {p:P} (h:R (.panic p (aG []) A)):qY Pg fn R [] (some p) (bA l) (aG m) A:=⟨aG [],aC0,h⟩
theorem aJe {fn:Func} {R:cL E→Prop} {md:Option P} {d:Nat} {ds:List GD} (h1:aG m d = .mark) (h2:d∉eL l) (h3:d∉bO m (m.map (·.1))) (h4:d∉dM ds) (h:qY Pg fn R ds md (bA l) (aG ((d,.none)::m)) A) :
  qY Pg fn R (.mark d::ds) md (bA l) (aG m) A:=by
 refine ⟨h1,fun t=>?_,fun j=>?_,fun g hg=>?_,h⟩
 ·cases hm:(bA l t).men d with
  |false=>rfl
  |true=>exact absurd (aC2 hm) h2
 ·cases hm:(aG m j).men d with
  |false=>rfl
  |true=>
   refine absurd (pO (aCl fun e=>?_) hm) h3
   rw [e] at hm;simp [Ob.men] at hm
 cases hm:g.men d with
 |false=>rfl
 |true=>exact absurd (yD hg hm) h4
theorem aJf {fn:Func} {R:cL E→Prop} {md:Option P} {f:FuncId} {args caps gargs:List G} {ds:List GD} {J:List Nat} {L:List (Nat×Nat)} {mc mr ps m2:List (Nat×Ob)} {g:G} (spec:lB E f gargs (aG mc) A md fun y=>y = .ok g (aG mr) A) (hent:aJ Pg f)
  (hcv:oB (rhp (aG m) J) (args++caps)=(cp,G.rens (dB L) gargs)) (hc:cp) (hp:kZ 100 L (aG m) (aG mc)) (hb:gK L (aG mc) (aG mr)) (hps:cR L (aG mr)=ps) (hm:ps.reverse++m=m2)
  (h:qY Pg fn R ds none (bA l) (aG m2) A):qY Pg fn R (.call f args caps::ds) md (bA l) (aG m) A:=
 ⟨hent,J,cp,gargs,L,aG mc,_,hcv,hc,hp,spec,fun g' h' A' e=>by cases e;exact ⟨hb,by rw [hps,oH,hm];exact h⟩,fun p h' A' e=>by cases e⟩
theorem wV {f:FuncId} {fn:Func} {args:List G} {R:cL E→Prop} (hf:Pg.funcs[f]? = some fn) (hb:fn.body=some c) (hN:args.length≤fn.ntmps) (w1:∀id,G.mens id args=true→aG m id ≠ .none)
  (w2:∀j id,(aG m j).men id=true→aG m id ≠ .none) (hbody:∀C:Cx E,C.N=fn.ntmps→C.lim=100→gwp C none c (aFl Pg fn R) (sg (num 0 args) m A [])):bD E f args (aG m) A R:=
 aJa hf hb hN (fun g hg id hm=>w1 id (cC.2 ⟨g,hg,hm⟩)) w2 fun C hC hL=>by
  have:=hbody C hC hL
  rw [sg,←wO] at this
  exact this
theorem hE {f:FuncId} {fn:Func} {args:List G} {R:cL E→Prop} (hf:Pg.funcs[f]? = some fn) (hb:fn.body=some c) (hN:args.length≤fn.ntmps) (w1:∀id,G.mens id args=true→aG m id ≠ .none)
  (w2:∀j id,(aG m j).men id=true→aG m id ≠ .none) (hbody:∀C:Cx E,C.N=fn.ntmps→C.lim=100→qX true C none c (aFl Pg fn R) (sg (num 0 args) m A [])):bD E f args (aG m) A R:=
 aJb hf hb hN (fun g hg id hm=>w1 id (cC.2 ⟨g,hg,hm⟩)) w2 fun C hC hL=>by
  have:=hbody C hC hL
  rw [sg,←wO] at this
  exact this
theorem fZ {f:FuncId} {fn:Func} {args:List G} {R:cL E→Prop} {md:Option P} {id:Nat} {o1:Oper} {t:Nat} (hf:Pg.funcs[f]? = some fn) (c2:Option Code) (hb:fn.body=some (aL6 id ops c2)) (hops:ops.toList=o1::rest) (hrc:qH o1=true) (hdst:o1.dst=some t) (ht:t<fn.ntmps)
  (hN:args.length≤fn.ntmps) (w1:∀id,G.mens id args=true→aG m id ≠ .none) (w2:∀j id,(aG m j).men id=true→aG m id ≠ .none)
  (hbody:∀C:Cx E,C.N=fn.ntmps→C.lim=100→cK C none ops (aL7 C fn R c2) rest (sg ((t,pP md)::num 0 args) m A [])):lB E f args (aG m) A md R:=
 aFk hf hb hops hrc hN (fun t' e=>by rw [hdst] at e;cases e;exact ht) (fun g hg id hm=>w1 id (cC.2 ⟨g,hg,hm⟩)) w2 c2 rfl fun C hC hL=>by
  have:=hbody C hC hL
  rw [sg,show bA ((t,pP md)::num 0 args)=vO (aBW args) o1.dst (pP md) by rw [hdst,wO];rfl] at this
  exact this
theorem aJg {cl:Call} {f:FuncId} {gs gargs:List G} {J:List Nat} {L:List (Nat×Nat)} {mc mr:List (Nat×Ob)} {ks:List Nat} {ad:Option (Nat×Ob)} {t:Nat} {ty:TypeId} {pos:String} {af:Array Edge} {gd:Option (Nat×Bool)} {v:P}
  (spec:bD E f gargs (aG mc) A fun y=>y = .panic v (aG mr) A) (hent:aJ Pg f) (hw:dO ops (bA l) ⟨some t,.call cl,ty,pos,af,gd⟩=some true) (hg:cI Pg (bA l) cl=some (f,gs)) (ha:iF C.lim (aG m) L ad) (hcv:kF (rhp (aG m) J) (ad.map (·.1)) ks gs=some (cp,G.rens (dB L) gargs)) (hc:cp)
  (hp:kZ C.lim L (dH (aG m) ad) (aG mc)) (hdis:∀d ob,ad=some (d,ob)→d∉J) (hb:gK L (aG mc) (aG mr)) (ht:t<C.N)
  (k:Q (.panic v) ⟨bA l,cU (aG m) (cR L (aG mr)),A,df⟩):cK C r ops Q (⟨some t,.call cl,ty,pos,af,gd⟩::rest) (sg l m A df):=by
 refine pN (aA6 (o:=⟨some t,.call cl,ty,pos,af,gd⟩) (σ:=sg l m A df) rfl hw hg hent ha hcv hc hp hdis spec (fun g h' A' e=>?_) (fun p h' A' e=>?_) (fun t' e=>by cases e;exact ht))
 ·cases e
 cases e;exact ⟨hb,k⟩
theorem aLb {lo:Nat} {o:Oper} (tab:List Nat) (ho:ops[lo]? = some o) (hw:oD tab ops.toList 0=true) (hc:aFd tab lo 1 ops.size=true) (he:∀K:Sg E→Prop,(∀σ,qB C r ops (cE C Q) (lo+1) σ→K σ)→qV C r ops o σ K Q):qB C r ops (cE C Q) lo σ:=
 aHi tab ho hw hc (he _ fun _ h=>h)
end
section
open Go.RowKit
variable {Pg:Program} [Kn Pg] {E:Env Pg} {C:Cx E} {r:Option Nat} {ops:Array Oper} {Q:GE→Sg E→Prop} {l l':List (Nat×G)} {m m':List (Nat×Ob)} {A:E.α} {df:List GD} {σ σ0:Sg E} {c:Code} {rest:List Oper} {cp:Prop}
theorem pQ {π:PM} {ρ:RM} {y:Value} {cs:List G} {vs:List Value} {j:Nat} {g g':G} (h:aR π ρ y cs vs) (hj:cs[j]? = some g) (hg:∀v,aK π ρ y g v→aK π ρ y g' v):aR π ρ y (cs.set j g') vs:=
 aR.mk (by simp [h.length]) fun i x u hx hu=>by
  rw [List.getElem?_set] at hx
  split at hx
  ·rename_i e;subst e
   split at hx
   ·cases hx
    obtain ⟨u',hu',hr⟩:=h.get j g hj
    rw [hu] at hu';cases hu'
    exact hg u hr
   cases hx
  obtain ⟨u',hu',hr⟩:=h.get i x hx
  rw [hu] at hu';cases hu'
  exact hr
theorem Le.adoptCell {id off fz d:Nat} {cs:List G} (e:TypeId) (sz:Nat) (fl:Bool) (ho:σ.h id = .cells cs fz) (hc:cs[off]? = some .nils) (hd:σ.h d = .none) (hd2:C.lim≤d) :
  Le C σ { σ with h:=upd (upd σ.h d (.arr e sz [] fl)) id (.cells (cs.set off (.own d 0)) fz) }:=fun a w ⟨π,ρ,S,H⟩=>by
 have hdm:∀j,(σ.h j).men d=false:=fun j=>by
  cases hm:(σ.h j).men d with
  |false=>rfl
  |true=>exact absurd hd (H.wfh j d hm)
 obtain ⟨U1,U2⟩:=H.rel.newNil d hd hdm e sz fl
 have hne:∀i,σ.h i ≠ .none→upd σ.h d (Ob.arr e sz [] fl) i ≠ .none:=fun i hi=>by
  simp only [upd];split
  ·simp
  exact hi
 have H1:St C { σ with h:=upd σ.h d (.arr e sz [] fl) } a w π (upd ρ d ⟨0,.slice none 0 0,0⟩) S:=by
  refine H.putObj U1 U2 (fun j hj=>?_) (fun j hj=>?_) hne (fun j i hm=>?_)
  ·have:j≠d:=fun e=>hj (e ▸ hd)
   rw [aZ _ _ this];exact .inl rfl
  ·rw [aZ _ _ (by omega)];exact .inl rfl
  simp only [upd] at hm
  split at hm
  ·simp [Ob.men] at hm
  exact hne i (H.wfh j i hm)
 have hid:id≠d:=fun e=>by subst e;rw [ho] at hd;cases hd
 have ho1:upd σ.h d (Ob.arr e sz [] fl) id = .cells cs fz:=by rw [aZ _ _ hid];exact ho
 have hob:=H1.rel.objs id
 simp only [ho1] at hob
 obtain ⟨vs,et,hw,hv,hone,hf,hn⟩:=hob
 have hnew:=pQ (g':=.own d 0) hv hc fun v hr=>by
  simp only [aK] at hr ⊢
  subst hr
  rw [aX]
  exact ⟨Nat.le_refl _,fun _=>rfl⟩
 have hrefl:∀(ρ:RM),upd ρ id (ρ id)=ρ:=fun ρ=>by funext j;unfold upd;split<;>simp_all
 have T:=H1.rel.turn (w':=w) (π':=π) id (upd ρ d ⟨0,.slice none 0 0,0⟩ id) (.cells (cs.set off (.own d 0)) fz) (Nat.le_refl _) rfl rfl rfl (fun b _ _=>⟨rfl,rfl⟩) (PM.le_refl _) H1.rel.know (fun _ _ _=>.inl rfl) ?_ (fun b hb=>?_)
 ·rw [hrefl] at T
  refine ⟨π,_,S,H1.putObj T.1 T.2 (fun _ _=>.inl rfl) (fun _ _=>.inl rfl) (fun i hi=>?_) fun j i hm=>?_⟩
  ·simp only [upd] at hi ⊢;split
   ·simp
   exact hi
  have hk:∀i,σ.h i ≠ .none∨i=d→upd (upd σ.h d (Ob.arr e sz [] fl)) id (Ob.cells (cs.set off (.own d 0)) fz) i ≠ .none:=fun i hi=>by
   simp only [upd];split
   ·simp
   split
   ·simp
   exact hi.resolve_right (by assumption)
  replace hm:(upd (upd σ.h d (Ob.arr e sz [] fl)) id (Ob.cells (cs.set off (.own d 0)) fz) j).men i=true:=hm
  simp only [upd] at hm
  split at hm
  ·simp only [Ob.men] at hm
   obtain ⟨g,hg,hgm⟩:=cC.1 hm
   rcases List.mem_or_eq_of_mem_set hg with hg|hg
   ·exact hk i (.inl (H.wfh id i (by rw [ho];exact cC.2 ⟨g,hg,hgm⟩)))
   subst hg
   simp only [G.men,beq_iff_eq] at hgm
   exact hk i (.inr hgm.symm)
  split at hm
  ·simp [Ob.men] at hm
  exact hk i (.inl (H.wfh j i hm))
 ·rw [hrefl]
  refine ⟨vs,et,hw,hnew,fun c hc'=>?_,hf,hn⟩
  rcases List.mem_or_eq_of_mem_set hc' with h|h
  ·exact hone c h
  subst h;rfl
 rw [hrefl] at hb
 exact .inl (by simp only [ho1];exact hb)
theorem aJh (id off d:Nat) (e:TypeId) (sz:Nat) (fl:Bool) {cs cs2:List G} {fz:Nat} (ho:aG m id = .cells cs fz) (hc:cs[off]? = some .nils) (he:cs.set off (.own d 0)=cs2) (hd:aG m d = .none) (hd2:C.lim≤d)
  (k:gwp C r c Q (sg l ((id,.cells cs2 fz)::(d,.arr e sz [] fl)::m) A df)):gwp C r c Q (sg l m A df):=
 oC (Le.adoptCell (σ:=sg l m A df) e sz fl ho hc hd hd2) (by subst he;exact k)
theorem dU {fn:Func} {R:cL E→Prop} (h:Fin Pg fn R σ):aI9 Pg fn R .normal σ:=h
end
section
open Go.RowKit
variable {Pg:Program} [Kn Pg] {E:Env Pg} {C:Cx E} {r:Option Nat} {ops:Array Oper} {Q:GE→Sg E→Prop} {l l':List (Nat×G)} {m m':List (Nat×Ob)} {A:E.α} {df:List GD} {σ σ0:Sg E} {c:Code} {rest:List Oper} {cp:Prop}
theorem aFn {π:PM} {xs:List P} {v:Value} (h:aS π (.list xs) v):∃a n c,v = .slice a n c∧(a.isNone=true→xs=[]):=by
 simp only [aS] at h
 obtain ⟨a,n,c,e,hl,hc,hr⟩:=h
 refine ⟨a,n,c,e,fun ha=>?_⟩
 rcases hr with ⟨rfl,rfl⟩|⟨b,o,rfl,_⟩
 ·have:xs.length=0:=by omega
  exact List.eq_nil_of_length_eq_zero this
 cases ha
theorem aHt {ops:Array Oper} {ty:TypeId} {i:TI} {x z:Operand} {t2:TypeId} {t:Nat} {pos:String} {af:Array Edge} {gd:Option (Nat×Bool)} {xs:List P} {e:TypeId} {K:Sg E→Prop} {tt:TypeId} (hi:ti Pg tt=some i) (hd:i.desc = .slice e) (hw:dO ops σ.fr ⟨some t,.binOp .eql tt x z t2,ty,pos,af,gd⟩=some true)
  (hx:gev σ.fr x = .p (.list xs)) (hz:z = .const (.slice none 0 0)) (ht:t<C.N) (hk:∀b:Bool,(b=true→xs=[])→K (σ.put (some t) (.p (.bool b)) [])):qV C r ops ⟨some t,.binOp .eql tt x z t2,ty,pos,af,gd⟩ σ K Q:=by
 intro a w ⟨π,ρ,S,H⟩ K' hK
 have hwt:=fQ H hw
 unfold wpO
 rw [hwt]
 simp only [if_true]
 refine ⟨fun f' hf'=>(by rw [kX (fun cl=>by simp)] at hf';cases hf'),?_⟩
 have hv:=fP H x
 rw [hx] at hv
 simp only [aK] at hv
 obtain ⟨ad,n,cc,e1,hnil⟩:=aFn hv
 obtain ⟨info,zz,hund,_⟩:=dC hi
 rw [hd] at hund
 have hsem:Oper.semAt (MF Pg r).round a.eval ⟨some t,.binOp .eql tt x z t2,ty,pos,af,gd⟩=execOp a.eval ⟨some t,.binOp .eql tt x z t2,ty,pos,af,gd⟩:=by
  cases r with
  |none=>rfl
  |some l=>exact Oper.semAt_some l _ _ fun cl hcl=>by cases hcl
 subst hz
 have hrun:(execOp a.eval ⟨some t,.binOp .eql tt x (.const (.slice none 0 0)) t2,ty,pos,af,gd⟩).run Pg w = .ok (.value (.bool ad.isNone)) w:=by
  have h2:=Go.run_equal_slice_nil (P:=Pg) w tt e ad n cc hund
  have hev:a.eval (.const (.slice none 0 0)) = .slice none 0 0:=rfl
  simp [execOp,e1,hev,binOp,eqGuard,h2]
 rw [hsem,hrun]
 refine hK _ _ _ (hk ad.isNone hnil) ⟨π,ρ,S,?_⟩
 exact H.putReg (dst:=some t) (fun t' e=>by cases e;exact ht) (aK.bool _) fun id h=>by simp [G.men] at h
theorem aLc {tt:TypeId} {i:TI} {x z:Operand} {t2 ty:TypeId} {t:Nat} {pos:String} {af:Array Edge} {xs:List P} {e:TypeId} (hi:ti Pg tt=some i) (hd:i.desc = .slice e) (hx:gev (bA l) x = .p (.list xs)) (hz:z = .const (.slice none 0 0)) (ht:t<C.N)
  (k:∀b:Bool,(b=true→xs=[])→cK C r ops Q rest (sg ((t,.p (.bool b))::l) m A df)):cK C r ops Q (⟨some t,.binOp .eql tt x z t2,ty,pos,af,none⟩::rest) (sg l m A df):=
 pN (aHt (σ:=sg l m A df) hi hd (bN rfl) hx hz ht k)
theorem aJi {h:Nat→Ob}:∀(gs:List G),∃c:Prop,iG h (List.replicate gs.length .k) gs=some (c,gs)∧c
 |[]=>⟨True,rfl,trivial⟩
 |g::gs=>by
  obtain ⟨c,h1,h2⟩:=aJi (h:=h) gs
  exact ⟨True∧c,by simp only [List.length_cons,List.replicate_succ,iG,cvS,h1],trivial,h2⟩
theorem Le.freezeK {id fz n:Nat} {cs:List G} (ho:σ.h id = .cells cs fz) (hn:fz≤n) (hn2:n≤cs.length) (h1:bB (cs.take n)=true):Le C σ { σ with h:=upd σ.h id (.cells cs n) }:=by
 obtain ⟨c,e,hc⟩:=aJi (h:=σ.h) (cs.take n)
 have:=Le.freeze (C:=C) ho hn hn2 e hc h1
 rwa [List.take_append_drop] at this
theorem aFo {lst:List Oper} (id n:Nat) {cs:List G} {fz:Nat} (ho:aG m id = .cells cs fz) (hn:fz≤n) (hn2:n≤cs.length) (h1:bB (cs.take n)=true) (k:cK C r ops Q lst (sg l ((id,.cells cs n)::m) A df)):cK C r ops Q lst (sg l m A df):=
 aCZ (Le.freezeK (σ:=sg l m A df) ho hn hn2 h1) k
theorem aHu {p:P} (h:p.one=true):p.cells=[p]:=by cases p<;>simp [P.one] at h<;>rfl
theorem wW:∀ {ps:List P},(∀p∈ps,p.one=true)→ps.flatMap P.cells=ps
 |[],_=>rfl
 |p::ps,h=>by rw [List.flatMap_cons,aHu (h p (by simp)),wW fun q hq=>h q (by simp [hq])];rfl
end
section
open Go.RowKit
variable {Pg:Program} [Kn Pg] {E:Env Pg} {C:Cx E} {r:Option Nat} {ops:Array Oper} {Q:GE→Sg E→Prop} {l l':List (Nat×G)} {m m':List (Nat×Ob)} {A:E.α} {df:List GD} {σ σ0:Sg E}
end
section
open Go.RowKit
variable {Pg:Program} [Kn Pg] {E:Env Pg} {C:Cx E} {r:Option Nat} {ops:Array Oper} {Q:GE→Sg E→Prop} {l l':List (Nat×G)} {m m':List (Nat×Ob)} {A:E.α} {df:List GD} {σ σ0:Sg E} {c:Code} {rest:List Oper} {cp:Prop}
theorem Le.convCell {id off fz:Nat} {cs:List G} {g g':G} {s:Sp} {q:Prop} (ho:σ.h id = .cells cs fz) (hc:cs[off]? = some g) (hcv:cvS σ.h s g=some (q,g')) (hq:q) (h1:g'.one=true) :
  Le C σ { σ with h:=upd σ.h id (.cells (cs.set off g') fz) }:=fun a w ⟨π,ρ,S,H⟩=>by
 have hob:=H.rel.objs id
 simp only [ho] at hob
 obtain ⟨vs,et,hw,hv,hone,hf,hn⟩:=hob
 have hnew:=pQ (g':=g') hv hc fun v hr=>aC9 H.rel hcv hq hr
 have hrefl:upd ρ id (ρ id)=ρ:=by funext j;unfold upd;split<;>simp_all
 have T:=H.rel.turn (w':=w) (π':=π) id (ρ id) (.cells (cs.set off g') fz) (Nat.le_refl _) rfl rfl rfl (fun b _ _=>⟨rfl,rfl⟩) (PM.le_refl _) H.rel.know (fun _ _ _=>.inl rfl) ?_ (fun b hb=>?_)
 ·rw [hrefl] at T
  have hne:∀i,σ.h i ≠ .none→upd σ.h id (Ob.cells (cs.set off g') fz) i ≠ .none:=fun i hi=>by
   simp only [upd];split
   ·simp
   exact hi
  refine ⟨π,ρ,S,H.putObj T.1 T.2 (fun _ _=>.inl rfl) (fun _ _=>.inl rfl) hne fun j i hm=>?_⟩
  simp only [upd] at hm
  split at hm
  ·refine hne i ?_
   simp only [Ob.men] at hm
   obtain ⟨x,hx,hxm⟩:=cC.1 hm
   rcases List.mem_or_eq_of_mem_set hx with hx|hx
   ·exact H.wfh id i (by rw [ho];exact cC.2 ⟨x,hx,hxm⟩)
   subst hx
   exact aDa H.wfh hcv (fun i hi=>H.wfh id i (by rw [ho];exact cC.2 ⟨g,List.mem_of_getElem? hc,hi⟩)) i hxm
  exact hne i (H.wfh j i hm)
 ·rw [hrefl]
  refine ⟨vs,et,hw,hnew,fun c hc'=>?_,hf,hn⟩
  rcases List.mem_or_eq_of_mem_set hc' with h|h
  ·exact hone c h
  subst h;exact h1
 rw [hrefl] at hb
 exact .inl (by rw [ho];exact hb)
theorem nH (id off:Nat) (s:Sp) {cs cs2:List G} {g g':G} {fz:Nat} (ho:aG m id = .cells cs fz) (hc:cs[off]? = some g) (hcv:cvS (aG m) s g=some (cp,g')) (hq:cp) (h1:g'.one=true) (he:cs.set off g'=cs2)
  (k:gwp C r c Q (sg l ((id,.cells cs2 fz)::m) A df)):gwp C r c Q (sg l m A df):=
 oC (Le.convCell (σ:=sg l m A df) ho hc hcv hq h1) (by subst he;exact k)
theorem Le.adoptReg {t d:Nat} (e:TypeId) (sz:Nat) (fl:Bool) (hr:σ.fr t = .nils) (hd:σ.h d = .none) (hd2:C.lim≤d) :
  Le C σ { σ with h:=upd σ.h d (.arr e sz [] fl),fr:=upd σ.fr t (.own d 0) }:=fun a w ⟨π,ρ,S,H⟩=>by
 have hdm:∀j,(σ.h j).men d=false:=fun j=>by
  cases hm:(σ.h j).men d with
  |false=>rfl
  |true=>exact absurd hd (H.wfh j d hm)
 obtain ⟨U1,U2⟩:=H.rel.newNil d hd hdm e sz fl
 have hne:∀i,σ.h i ≠ .none→upd σ.h d (Ob.arr e sz [] fl) i ≠ .none:=fun i hi=>by
  simp only [upd];split
  ·simp
  exact hi
 have H1:St C { σ with h:=upd σ.h d (.arr e sz [] fl) } a w π (upd ρ d ⟨0,.slice none 0 0,0⟩) S:=by
  refine H.putObj U1 U2 (fun j hj=>?_) (fun j hj=>?_) hne (fun j i hm=>?_)
  ·have:j≠d:=fun e=>hj (e ▸ hd)
   rw [aZ _ _ this];exact .inl rfl
  ·rw [aZ _ _ (by omega)];exact .inl rfl
  simp only [upd] at hm
  split at hm
  ·simp [Ob.men] at hm
  exact hne i (H.wfh j i hm)
 refine ⟨π,_,S,H1.size,fun k=>?_,H1.defs,H1.rel,H1.trans,H1.step,fun k i hm=>?_,H1.wfh,H1.wfd⟩
 ·have hv:=H1.vals k
  show aK π _ E.yv (upd σ.fr t (.own d 0) k) _
  simp only [upd]
  split
  ·rename_i e;subst e
   replace hv:aK π _ E.yv (σ.fr k) _:=hv
   rw [hr] at hv
   simp only [aK] at hv ⊢
   rw [hv,aX]
   exact ⟨Nat.le_refl _,fun _=>rfl⟩
  exact hv
 replace hm:(upd σ.fr t (.own d 0) k).men i=true:=hm
 simp only [upd] at hm
 split at hm
 ·simp only [G.men,beq_iff_eq] at hm
  subst hm
  show upd σ.h d (Ob.arr e sz [] fl) d ≠ .none
  rw [aX];simp
 exact H1.wfr k i hm
theorem yI (t d:Nat) (e:TypeId) (sz:Nat) (fl:Bool) (hr:bA l t = .nils) (hd:aG m d = .none) (hd2:C.lim≤d)
  (k:gwp C r c Q (sg ((t,.own d 0)::l) ((d,.arr e sz [] fl)::m) A df)):gwp C r c Q (sg l m A df):=
 oC (Le.adoptReg (σ:=sg l m A df) e sz fl hr hd hd2) k
theorem aAt {l1:List (Nat×G)} {m1:List (Nat×Ob)} {x y:Code} {Q2:GE→Sg E→Prop} (h1:gwp C r x (rT (fun σ'=>Le C σ' (sg l1 m1 A df)) Q) (sg l m A df)) (h2:gwp C r y Q2 (sg l1 m1 A df)):gwp C r x (rT (gwp C r y Q2) Q) (sg l m A df):=
 qC h1 fun e σ' k=>by
  cases e with
  |normal=>exact oC k h2
  |_=>exact k
def aL8 (done:List P) (x:List G) (m:Nat):List G:=done.map .p++(x++List.replicate m .nils)
theorem aBd:∀(a b:List G),G.idls (a++b)=G.idls a++G.idls b
 |[],b=>by simp [G.idls]
 |g::a,b=>by simp [G.idls,aBd a b]
theorem aD9:∀m,G.idls (List.replicate m .nils)=[]
 |0=>rfl
 |m+1=>by rw [List.replicate_succ];simp [G.idls,G.idl,aD9 m]
theorem aCo (done:List P) (x:List G) (m:Nat):G.idls (aL8 done x m)=G.idls x:=by
 rw [aL8,aBd,aBd,aD9,cA];simp
theorem aCp:G.idls ([]:List G)=[]:=rfl
end
section
open Go.RowKit
variable {Pg:Program} [Kn Pg] {E:Env Pg} {C:Cx E} {r:Option Nat} {ops:Array Oper} {Q:GE→Sg E→Prop} {l l':List (Nat×G)} {m m':List (Nat×Ob)} {A:E.α} {df:List GD} {σ σ0:Sg E} {c:Code} {rest:List Oper} {cp:Prop}
theorem aDd {w:World} {base:Nat} {e:TypeId} {size n:Nat} {v:Value} {xs:List Value} {b:Nat} (h:w.ownsRow base e size v n xs) (hb:cQ v=some b) {j:Nat} {u:Value} (hj:xs[j]? = some u):w.cell? ⟨b,j,none⟩=some u:=by
 obtain ⟨h1,h2⟩:=h
 rcases h2 with ⟨h2,_⟩|⟨g,cap,cur,hv,_,hh,_,_,_,ht⟩
 ·rw [h2] at hb;simp [cQ] at hb
 have:=jM hb
 rw [hv] at this
 simp only [Value.ownBlock,Option.some.injEq] at this
 subst this
 obtain ⟨curl⟩:=cur
 rw [fI hh]
 rw [←ht,List.getElem?_take] at hj
 split at hj
 ·exact hj
 cases hj
theorem Le.freezeArr {id:Nat} {e:TypeId} {sz:Nat} {xs:List P} (ho:σ.h id = .arr e sz xs false):Le C σ { σ with h:=upd σ.h id (.arr e sz xs true) }:=fun a w ⟨π,ρ,S,H⟩=>by
 have hob:=H.rel.objs id
 rw [ho] at hob
 obtain ⟨cs,hrow,hlen,hps,hsz,hone,hcap⟩:=hob
 have hrefl:upd ρ id (ρ id)=ρ:=by funext j;unfold upd;split<;>simp_all
 have hne:∀i,σ.h i ≠ .none→upd σ.h id (Ob.arr e sz xs true) i ≠ .none:=fun i hi=>by
  simp only [upd];split
  ·simp
  exact hi
 have fin:∀π',Rel E π' ρ (upd σ.h id (.arr e sz xs true)) σ.A S w→cH (Own ρ σ.h S) w π (Own ρ (upd σ.h id (.arr e sz xs true)) S) w π'→Holds C { σ with h:=upd σ.h id (.arr e sz xs true) } a w:=fun π' R' T'=>by
  refine ⟨π',ρ,S,H.putObj R' T' (fun _ _=>.inl rfl) (fun _ _=>.inl rfl) hne fun j i hm=>?_⟩
  simp only [upd] at hm
  split at hm
  ·simp [Ob.men] at hm
  exact hne i (H.wfh j i hm)
 cases hb:cQ (ρ id).v with
 |none=>
  have T:=H.rel.turn (w':=w) (π':=π) id (ρ id) (.arr e sz xs true) (Nat.le_refl _) rfl rfl rfl (fun b _ _=>⟨rfl,rfl⟩) (PM.le_refl _) H.rel.know (fun _ _ _=>.inl rfl) ?_ (fun b hb'=>?_)
  ·rw [hrefl] at T
   exact fin π T.1 T.2
  ·rw [hrefl]
   exact ⟨cs,hrow,hlen,hps,hsz,hone,fun b hb'=>by rw [hb] at hb';cases hb'⟩
  rw [hrefl] at hb'
  simp only [bQ] at hb'
  rw [hb] at hb';cases hb'
 |some b=>
  have hown:w.ownsRow 0 e sz (ρ id).v xs.length cs:=by
   rcases hrow with ⟨_,_,a,_,hv⟩|⟨h,_⟩
   ·rw [hv] at hb;cases a<;>simp [cQ] at hb
   exact h
  have hnone:=(hcap b hb).2
  let π':PM:=fun b' o=>if b'=b then cs[o]? else π b' o
  have hle:PM.le π π':=fun b' o v hk=>by
   simp only [π']
   split
   ·rename_i e;subst e
    rw [hnone o (.inl rfl)] at hk;cases hk
   exact hk
  have T:=H.rel.turn (w':=w) (π':=π') id (ρ id) (.arr e sz xs true) (Nat.le_refl _) rfl rfl rfl (fun b' _ hne'=>⟨rfl,?_⟩) hle (fun b' o v hk=>?_) (fun _ _ _=>.inl rfl) ?_ (fun b' hb'=>?_)
  ·rw [hrefl] at T
   exact fin π' T.1 T.2
  ·funext o
   simp only [π']
   rw [if_neg]
   intro e'
   exact hne' (by rw [ho];simp [bQ,hb,e'])
  ·simp only [π'] at hk
   split at hk
   ·rename_i e';subst e'
    exact aDd hown hb hk
   exact H.rel.know _ _ _ hk
  ·rw [hrefl]
   refine ⟨cs,.inr ⟨hown,b,hb⟩,hlen,hps.mono hle,hsz,hone,fun b' hb'=>?_⟩
   rw [hb] at hb';cases hb'
   refine ⟨fun _ j u hu=>by simp only [π',if_true];exact hu,fun j hj=>?_⟩
   simp only [π',if_true]
   rcases hj with hj|hj
   ·cases hj
   rw [List.getElem?_eq_none_iff];exact hj
  rw [hrefl] at hb'
  rw [ho];exact .inl hb'
theorem pR (id:Nat) {e:TypeId} {sz:Nat} {xs:List P} (ho:aG m id = .arr e sz xs false) (k:gwp C r c Q (sg l ((id,.arr e sz xs true)::m) A df)):gwp C r c Q (sg l m A df):=
 oC (Le.freezeArr (σ:=sg l m A df) ho) k
theorem aJj {lst:List Oper} (id:Nat) {e:TypeId} {sz:Nat} {xs:List P} (ho:aG m id = .arr e sz xs false) (k:cK C r ops Q lst (sg l ((id,.arr e sz xs true)::m) A df)):cK C r ops Q lst (sg l m A df):=
 aCZ (Le.freezeArr (σ:=sg l m A df) ho) k
theorem Le.fslCell {i1 o1 f1 id off len fz:Nat} {ds cs:List G} {ps:List P} (hi:σ.h i1 = .cells ds f1) (hc:ds[o1]? = some (.fsl id off len)) (ho:σ.h id = .cells cs fz) (h1:off+len≤fz) (hps:(cs.drop off).take len=ps.map .p) (h2:ps.length=len) (h3:∀p∈ps,p.one=true) :
  Le C σ { σ with h:=upd σ.h i1 (.cells (ds.set o1 (.p (.list ps))) f1) }:=fun a w ⟨π,ρ,S,H⟩=>by
 have hob:=H.rel.objs i1
 simp only [hi] at hob
 obtain ⟨vs,et,hw,hv,hone,hf,hn⟩:=hob
 have hnew:=pQ (g':=.p (.list ps)) hv hc fun v hr=>by
  simp only [aK] at hr
  obtain ⟨cap,hv,hcap⟩:=hr
  have hr:=aC6 H.rel ho h1
  rw [hps] at hr
  simp only [aK,aS]
  refine ⟨_,_,_,hv,h2.symm,hcap,.inr ⟨_,_,rfl,bE.row.2 ?_⟩⟩
  rw [wW h3]
  refine dJ.mk fun j c hc=>?_
  obtain ⟨u,h1,h2,h3⟩:=hr.get j (.p c) (by rw [List.getElem?_map,hc];rfl)
  exact ⟨u,h1,by simpa only [aK] using h2,h3⟩
 have hrefl:upd ρ i1 (ρ i1)=ρ:=by funext j;unfold upd;split<;>simp_all
 have T:=H.rel.turn (w':=w) (π':=π) i1 (ρ i1) (.cells (ds.set o1 (.p (.list ps))) f1) (Nat.le_refl _) rfl rfl rfl (fun b _ _=>⟨rfl,rfl⟩) (PM.le_refl _) H.rel.know (fun _ _ _=>.inl rfl) ?_ (fun b hb=>?_)
 ·rw [hrefl] at T
  have hne:∀i,σ.h i ≠ .none→upd σ.h i1 (Ob.cells (ds.set o1 (.p (.list ps))) f1) i ≠ .none:=fun i hi=>by
   simp only [upd];split
   ·simp
   exact hi
  refine ⟨π,ρ,S,H.putObj T.1 T.2 (fun _ _=>.inl rfl) (fun _ _=>.inl rfl) hne fun j i hm=>?_⟩
  simp only [upd] at hm
  split at hm
  ·refine hne i ?_
   simp only [Ob.men] at hm
   obtain ⟨x,hx,hxm⟩:=cC.1 hm
   rcases List.mem_or_eq_of_mem_set hx with hx|hx
   ·exact H.wfh i1 i (by rw [hi];exact cC.2 ⟨x,hx,hxm⟩)
   subst hx;simp [G.men] at hxm
  exact hne i (H.wfh j i hm)
 ·rw [hrefl]
  refine ⟨vs,et,hw,hnew,fun c hc'=>?_,hf,hn⟩
  rcases List.mem_or_eq_of_mem_set hc' with h|h
  ·exact hone c h
  subst h;rfl
 rw [hrefl] at hb
 exact .inl (by rw [hi];exact hb)
theorem aGu {i1 o1 f1 off len fz id:Nat} {ds ds2 cs:List G} {ps:List P} (hi:aG m i1 = .cells ds f1) (hc:ds[o1]? = some (.fsl id off len)) (ho:aG m id = .cells cs fz) (h1:off+len≤fz) (hps:(cs.drop off).take len=ps.map .p) (h2:ps.length=len) (h3:∀p∈ps,p.one=true) (he:ds.set o1 (.p (.list ps))=ds2)
  (k:gwp C r c Q (sg l ((i1,.cells ds2 f1)::m) A df)):gwp C r c Q (sg l m A df):=oC (Le.fslCell (σ:=sg l m A df) hi hc ho h1 hps h2 h3) (by subst he;exact k)
end
section
variable {Pg:Program} [Kn Pg] {E:Env Pg} {l:List (Nat×G)} {m m':List (Nat×Ob)} {A:E.α}
theorem aJk {fn:Func} {R:cL E→Prop} {d d':Prop} {g:G} {v:P} {I:List Nat} (hg:fH Pg (aG m) (bA l) fn.results.toList=some (d,g)) (hd:d) (hp:toP (aG m) g=some (d',v)) (hd':d') (hm:bS I m=m') (h3:dP (bO m I) I=true)
  (hne:∀i∈I,aG m i ≠ .none) (hR:R (.ok (.p v) (aG m') A)):Fin Pg fn R (sg l m A []):=by
 simp only [dP,List.all_eq_true,decide_eq_true_eq] at h3
 subst hm
 refine ⟨rfl,d,g,hg,hd,.p v,_,.inr ⟨d',v,hp,hd',rfl⟩,⟨fun id=>?_,fun j id hx=>?_⟩,fun id hx=>by simp [G.men] at hx,hR⟩
 ·rw [dQ];split
  ·exact .inl rfl
  exact .inr rfl
 rw [dQ] at hx ⊢
 split at hx
 ·rename_i hj
  have:=h3 id (pO hj hx)
  rw [if_pos this];exact hne id this
 simp [Ob.men] at hx
end
section
open Go.RowKit
variable {Pg:Program} [Kn Pg] {E:Env Pg} {C:Cx E} {r:Option Nat} {ops:Array Oper} {Q:GE→Sg E→Prop} {l l':List (Nat×G)} {m m':List (Nat×Ob)} {A:E.α} {df:List GD} {σ σ0:Sg E} {c:Code} {rest:List Oper} {cp:Prop}
theorem aEa (w:World) (g:Nat) (cs:Array Value) (t:TypeId) (fr:Nat×Nat) (hg:w.heap[g]? = some (.cells cs t fr)):w.setRow g cs=w:=by
 obtain ⟨hlt,hv⟩:=Array.getElem?_eq_some_iff.1 hg
 unfold World.setRow
 cases w with
 |mk heap=>
  simp only at hlt hv ⊢
  congr 1
  apply Array.ext
  ·simp
  intro i h1 h2
  rw [Array.getElem_modify]
  split
  ·rename_i e;subst e;rw [hv]
  rfl
end
section
open Go.RowKit
variable {Pg:Program} [Kn Pg] {E:Env Pg} {C:Cx E} {r:Option Nat} {ops:Array Oper} {Q:GE→Sg E→Prop} {l l':List (Nat×G)} {m m':List (Nat×Ob)} {A:E.α} {df:List GD} {σ σ0:Sg E} {c:Code} {rest:List Oper} {cp:Prop}
theorem aFp {ty:TypeId} {i j:TI} {x z:Operand} {t:Nat} {pos:String} {af:Array Edge} {gd:Option (Nat×Bool)} {tt t2 e:TypeId} {id off len fz:Nat} {cs:List G} {ps zs:List P} {K:Sg E→Prop}
  (hi:ti Pg tt=some i) (hd:i.desc = .slice e) (hj:ti Pg e=some j) (hsz:j.size=1) (hw:dO ops σ.fr ⟨some t,.call ⟨.builtin .copy,#[x,z],#[tt,t2]⟩,ty,pos,af,gd⟩=some true)
  (hx:gev σ.fr x = .fsl id off len) (ho:σ.h id = .cells cs fz) (hz:gev σ.fr z = .p (.list zs)) (hps:zs.take len=ps) (hfit:off+ps.length≤cs.length) (hf:fz≤off) (h0:∀p∈zs,p.one=true) (ht:t<C.N)
  (hk:K (σ.put (some t) (.p (.int .i64 ps.length)) [(id,.cells (splice cs off (ps.map .p)) fz)])) :
  qV C r ops ⟨some t,.call ⟨.builtin .copy,#[x,z],#[tt,t2]⟩,ty,pos,af,gd⟩ σ K Q:=by
 intro a w ⟨π,ρ,S,H⟩ K' hK
 have h1:∀p∈ps,p.one=true:=fun p hp=>h0 p (List.mem_of_mem_take (hps ▸ hp))
 have hpl:ps.length=min len zs.length:=by rw [←hps,List.length_take]
 have hwt:=fQ H hw
 unfold wpO
 rw [hwt]
 simp only [if_true]
 refine ⟨fun f' hf'=>(by rw [uW rfl rfl] at hf';cases hf'),?_⟩
 have hvx:=fP H x
 have hvz:=fP H z
 rw [hx] at hvx
 rw [hz] at hvz
 simp only [aK,aS] at hvx hvz
 obtain ⟨cap,ex,hcap⟩:=hvx
 obtain ⟨ad,n,cc,ez,hn,hcc,hcell⟩:=hvz
 obtain ⟨info,zz,hund,_⟩:=dC hi
 rw [hd] at hund
 obtain ⟨info2,zz2,hund2,hin2,_,hsz2,_⟩:=dC hj
 have hinfo:(Pg.info? e).map (·.size)=some 1:=by rw [hin2,Option.map_some,hsz2,hsz]
 have hob:=H.rel.objs id
 rw [ho] at hob
 obtain ⟨vs,et,hwv,hr,hone,_⟩:=hob
 have hsem:Oper.semAt (MF Pg r).round a.eval ⟨some t,.call ⟨.builtin .copy,#[x,z],#[tt,t2]⟩,ty,pos,af,gd⟩=execOp a.eval ⟨some t,.call ⟨.builtin .copy,#[x,z],#[tt,t2]⟩,ty,pos,af,gd⟩:=by
  cases r with
  |none=>rfl
  |some l=>exact Oper.semAt_some l _ _ fun cl hcl=>by cases hcl
 have fin:∀us:List Value,aU π ps us→(execOp a.eval ⟨some t,.call ⟨.builtin .copy,#[x,z],#[tt,t2]⟩,ty,pos,af,gd⟩).run Pg w = .ok (.value (goInt us.length)) (w.setRow (ρ id).blk ⟨vs.take off++us++vs.drop (off+us.length)⟩) →
   Oper.uponIn (MF Pg r) 0 Pg ⟨some t,.call ⟨.builtin .copy,#[x,z],#[tt,t2]⟩,ty,pos,af,gd⟩ a K' (cE C Q) ((Oper.semAt (MF Pg r).round a.eval ⟨some t,.call ⟨.builtin .copy,#[x,z],#[tt,t2]⟩,ty,pos,af,gd⟩).run Pg w):=fun us hus hrun=>by
  rw [hsem,hrun]
  have hul:us.length=ps.length:=hus.length
  have hlen:=hr.length
  have U:=H.rel.setCells ho hwv (hr.splice (aR.of_PRels hus) off) (fun c hc=>(qU hc).elim (hone c) fun hc=>by obtain ⟨p,hp,rfl⟩:=List.mem_map.1 hc;exact h1 p hp) fun j hj=>by
   rw [List.append_assoc,List.getElem?_append_left (by rw [List.length_take];omega),List.getElem?_take,if_pos (by omega)]
  have hne:∀k,σ.h k ≠ .none→upd σ.h id (Ob.cells (splice cs off (ps.map .p)) fz) k ≠ .none:=fun k hk=>by
   simp only [upd];split
   ·simp
   exact hk
  have H1:=H.putObj U.1 U.2 (fun _ _=>.inl rfl) (fun _ _=>.inl rfl) hne fun j i hm=>by
   simp only [upd] at hm
   split at hm
   ·refine hne i ?_
    simp only [Ob.men] at hm
    obtain ⟨g,hg,hgm⟩:=cC.1 hm
    rcases qU hg with h|h
    ·exact H.wfh id i (by rw [ho];exact cC.2 ⟨g,h,hgm⟩)
    obtain ⟨p,_,rfl⟩:=List.mem_map.1 h
    simp [G.men] at hgm
   exact hne i (H.wfh j i hm)
  refine hK _ _ _ hk ⟨π,ρ,S,?_⟩
  rw [←hul]
  exact H1.putReg (dst:=some t) (fun t' e=>by cases e;exact ht) (by simp only [aK,aS];rfl) fun id h=>by simp [G.men] at h
 have hrun:∀u w',(Builtin.copy_ #[tt,t2] ty #[a.eval x,a.eval z]).run Pg w = .ok u w'→(execOp a.eval ⟨some t,.call ⟨.builtin .copy,#[x,z],#[tt,t2]⟩,ty,pos,af,gd⟩).run Pg w = .ok (.value u) w':=fun u w' hc=>by
  simp [execOp,resolve,invoke,builtin,hc]
 rcases hcell with ⟨rfl,rfl⟩|⟨b,o,rfl,hcell⟩
 ·have hp0:ps=[]:=List.eq_nil_of_length_eq_zero (by omega)
  subst hp0
  refine fin [] (by simp only [aU]) (hrun _ _ ?_)
  rw [ex,ez]
  have:=run_copy_none (P:=Pg) w tt t2 ty e (some ⟨(ρ id).blk,off,none⟩) none len cap n 0 hund hinfo (by rw [show n=0 by omega];exact Nat.zero_min _)
  rw [this]
  congr 1
  have hv:vs.take off++[]++vs.drop (off+([]:List Value).length)=vs:=by simp
  rw [hv]
  exact (aEa w (ρ id).blk ⟨vs⟩ et _ hwv).symm
 rw [bE.row,wW h0] at hcell
 replace hcell:=hcell.take len
 rw [hps] at hcell
 obtain ⟨us,hus,hcl,hu1⟩:=dJ.vals hcell
 have hul:us.length=ps.length:=hus.length
 have hlen:=hr.length
 refine fin us hus (hrun _ _ ?_)
 rw [ex,ez]
 exact run_copy_row (P:=Pg) w tt t2 ty e (ρ id).blk off len cap ⟨b,o,none⟩ n cc ⟨vs⟩ et us hund hinfo hwv (by rw [hul,show n.min len=min n len from rfl];omega) (fun j v hj=>by have:=H.rel.know _ _ _ (hcl j v hj);rwa [Addr.add_lit]) (by show off+us.length≤vs.length;omega) hu1
theorem aJl {ty tt t2 e:TypeId} {i j:TI} {x z:Operand} {t:Nat} {pos:String} {af:Array Edge} {id off len fz:Nat} {cs:List G} {ps zs:List P}
  (hi:ti Pg tt=some i) (hd:i.desc = .slice e) (hj:ti Pg e=some j) (hsz:j.size=1) (hx:gev (bA l) x = .fsl id off len) (ho:aG m id = .cells cs fz) (hz:gev (bA l) z = .p (.list zs)) (hps:zs.take len=ps) (hfit:off+ps.length≤cs.length) (hf:fz≤off) (h0:∀p∈zs,p.one=true) (ht:t<C.N)
  (k:cK C r ops Q rest (sg ((t,.p (.int .i64 ps.length))::l) ((id,.cells (splice cs off (ps.map .p)) fz)::m) A df)):cK C r ops Q (⟨some t,.call ⟨.builtin .copy,#[x,z],#[tt,t2]⟩,ty,pos,af,none⟩::rest) (sg l m A df):=
 pN (aFp (σ:=sg l m A df) hi hd hj hsz (bN rfl) hx ho hz hps hfit hf h0 ht k)
end
section
theorem aDe {m m':List (Nat×Ob)} (I:List Nat) (hm:bS I m=m') (h3:dP (bO m I) I=true) (hne:∀i∈I,aG m i ≠ .none):Sub (aG m') (aG m):=by
 simp only [dP,List.all_eq_true,decide_eq_true_eq] at h3
 subst hm
 refine ⟨fun id=>?_,fun j id hx=>?_⟩
 ·rw [dQ];split
  ·exact .inl rfl
  exact .inr rfl
 rw [dQ] at hx ⊢
 split at hx
 ·rename_i hj
  have:=h3 id (pO hj hx)
  rw [if_pos this];exact hne id this
 simp [Ob.men] at hx
end
section
open Go.RowKit
variable {Pg:Program} [Kn Pg] {E:Env Pg} {C:Cx E} {σ:Sg E} {a:Act} {w w':World} {π π':PM} {ρ ρ':RM} {S S':Nat→Prop} {r:Option Nat} {L:Lo C}
def aCq (Pg:Program) [Kn Pg] (f:FuncId) (args:List G) (mc:Nat→Ob) (xs:List (List Y0)) (tail:Option P) (pan:Bool):Prop:=
 ∀(E:Env Pg) (J:Nat→E.α→Prop) (Z:E.α→Prop) (ZP:P→E.α→Prop),(∀k a x,J k a→xs[k]? = some x→E.Can a x) →
  (∀k a x b a',J k a→xs[k]? = some x→E.Y a x b a'→match b with|.b true=>J (k+1) a'|.b false=>Z a'|.p p=>pan=true∧ZP p a') →
  ∀A,J 0 A→bD E f args mc A fun y=>(∃v h' A',y = .ok v h' A'∧((tail=none∧J xs.length A')∨Z A'))∨∃p h' A',y = .panic p h' A'∧((tail=some p∧J xs.length A')∨ZP p A')
theorem wX {id j b:Nat} {h:Nat→Ob} (hb:bQ ρ j (upd h id .none j)=some b):j≠id∧bQ ρ j (h j)=some b:=by
 by_cases e:j=id
 ·subst e;rw [aX] at hb;simp [bQ] at hb
 rw [aZ _ _ e] at hb;exact ⟨e,hb⟩
theorem aLd {id b:Nat} {h:Nat→Ob} (hb:Own ρ (upd h id .none) S b):Own ρ h S b:=by
 rcases hb with hb|⟨j,hb⟩
 ·exact .inl hb
 exact .inr ⟨j,(wX hb).2⟩
theorem LSt.drop (H:LSt C σ a w π ρ S) (id:Nat) (hm1:∀j,(σ.h j).men id=false) (hm2:∀g∈σ.df,g.men id=false):LSt C ⟨shy id σ.fr,upd σ.h id .none,σ.A,σ.df⟩ a w π ρ S:=by
 have hne:∀i,i≠id→σ.h i ≠ .none→upd σ.h id Ob.none i ≠ .none:=fun i hi hn=>by rw [aZ _ _ hi];exact hn
 have hshy:∀t i,(shy id σ.fr t).men i=true→i≠id∧(σ.fr t).men i=true:=fun t i hm=>by
  simp only [shy] at hm
  split at hm
  ·simp [G.men] at hm
  rename_i hf
  exact ⟨fun e=>hf (e ▸ hm),hm⟩
 refine ⟨H.size,fun t=>?_,H.defs,⟨H.rel.know,fun j=>?_,fun i j b hij hi hj=>H.rel.apart i j b hij (wX hi).2 (wX hj).2,fun j b hb=>H.rel.sep j b (wX hb).2,H.rel.res,H.rel.inb,H.rel.gl⟩,H.step,fun t i hm=>hne i (hshy t i hm).1 (H.wfr t i (hshy t i hm).2),fun j i hm=>?_,fun g hg i hm=>?_⟩
 ·show aK π ρ E.yv (shy id σ.fr t) _
  simp only [shy]
  split
  ·simp only [aK]
  exact H.vals t
 ·show kI π ρ E.yv w j (upd σ.h id .none j)
  by_cases e:j=id
  ·subst e;rw [aX];trivial
  rw [aZ _ _ e];exact H.rel.objs j
 ·replace hm:(upd σ.h id Ob.none j).men i=true:=hm
  by_cases e:j=id
  ·subst e;rw [aX] at hm;simp [Ob.men] at hm
  rw [aZ _ _ e] at hm
  refine hne i (fun e=>?_) (H.wfh j i hm)
  subst e;rw [hm1] at hm;cases hm
 refine hne i (fun e=>?_) (H.wfd g hg i hm)
 subst e;rw [hm2 g hg] at hm;cases hm
theorem aFq (ok:L.Ok) {l:Nat} {fn:FuncId} (hfn:L.pan=true→(Pg.funcs[fn]?).isSome=true) {D:Nat} {ps:Array Tmp} (hps:ps.toList=L.ps) {bs:List (Nat×Obj)} (hlb:∀p∈bs,p.1≠l) {f:FuncId} {args:List G} {mc:Nat→Ob} {N:Nat→Prop} (it:aCq Pg f args mc L.xs L.tail L.pan)
  {h:Nat→Ob} {A:E.α} (h0:L.I 0 h A) (H:Lp C ⟨L.fr,h,A,L.df⟩ a ((l,.loop (gO fn a.tmps ps L.assign L.body D .ready none))::bs) S π w) (hgl:Kn.good Pg π)
  (hk:∀b o v,π b o=some v→w.cell? ⟨b,o,none⟩=some v) (hin:∀b,S b→b<w.heap.size) {vs:List Value} {ρ2:RM} (hv:aR π ρ2 (.func (.yield l) #[] #[]) args vs)
  (m1:∀y id,kI π ρ2 y w id (mc id)) (m2:∀i j b,i≠j→bQ ρ2 i (mc i)=some b→bQ ρ2 j (mc j)≠some b) (m3:∀i b,bQ ρ2 i (mc i)=some b→¬S b∧N b) :
  CallsIn (MF Pg none) 0 Pg f ⟨vs⟩ w fun
   |.returned _,w3=>∃(jump:Option Code) (h':Nat→Ob) (A':E.α) (S':Nat→Prop) (π':PM) (o:Loop),(Instr.endLoop l).run Pg w3 = .ok jump (w3.putObj l (.loop o))∧cH (fun b=>S b∨N b) w π S' (w3.putObj l (.loop o)) π' ∧
     Lp C ⟨L.fr,h',A',L.df⟩ a ((l,.loop o)::bs) S' π' (w3.putObj l (.loop o))∧(match jump with|none=>L.tail=none∧L.I L.xs.length h' A'|some c=>∃e,jmp e=some c∧L.K e h' A')
   |.panicked chain,w3=>∃(p:P) (v:Value) (h':Nat→Ob) (A':E.α) (S':Nat→Prop) (π':PM) (o:Loop),chain=[{ v,recovered:=false }]∧aS π' p v∧cH (fun b=>S b∨N b) w π S' w3 π' ∧
     Lp C ⟨L.fr,h',A',L.df⟩ a ((l,.loop o)::bs) S' π' w3∧((L.tail=some p∧L.I L.xs.length h' A')∨L.KP p h' A')
   |_,_=>False:=by
 let E2:=aOG ok a l fn hfn D hps bs hlb
 have hR2:Rel E2 π ρ2 mc (LS.run 0 h A) S w:=⟨hk,fun id=>m1 _ id,m2,fun i b hi=>(m3 i b hi).1,H,hin,hgl⟩
 have spec:=it E2 (fun k s=>∃h A,s=LS.run k h A∧L.I k h A) (fun s=>∃c h A e,s=LS.jump c h A∧jmp e=some c∧L.K e h A) (fun p s=>∃h A,s=LS.dead p h A∧L.KP p h A)
  (fun k s x ⟨h,A,e,hI⟩ hx=>by subst e;exact ⟨hI,hx⟩)
  (fun k s x b s' ⟨h,A,e,hI⟩ hx hy=>by
   subst e
   cases b with
   |b b=>
    cases b<;>cases s'<;>first|exact False.elim hy|skip
    ·obtain ⟨e,h1,h2⟩:=hy;exact ⟨_,_,_,e,rfl,h1,h2⟩
    obtain ⟨h1,h2⟩:=hy;exact ⟨_,_,by rw [h1],h2⟩
   |p p=>
    cases s'<;>first|exact False.elim hy|skip
    obtain ⟨h1,h2⟩:=hy;subst h1;exact ⟨(ok.wfP _ _ _ h2).1,_,_,rfl,h2⟩)
  (LS.run 0 h A) ⟨h,A,rfl,h0⟩
 refine (spec π ρ2 S w vs hR2 hv).mono fun e w3 k3=>?_
 have hS:∀b,Own ρ2 mc S b→(S b∨N b):=fun b hb=>by
  rcases hb with hb|⟨id,hb⟩
  ·exact .inl hb
  exact .inr (m3 id b hb).2
 cases e with
 |outgrown=>exact k3
 |panicked ch=>
  obtain ⟨π',ρ',h',A',S',p,v,hB,hch,hpv,hq⟩:=k3
  have hT:=(hB.trans.weaken hS).shrink (O'':=S') fun b hb=>.inl hb
  rcases hq with ⟨_,_,_,e,_⟩|⟨p',h1,A1,e,hq⟩
  ·cases e
  cases e
  rcases hq with ⟨ht,h2,A2,e,hI⟩|⟨h2,A2,e,hK⟩
  ·subst e
   exact ⟨p,v,h2,A2,S',π',_,hch,hpv,hT,hB.rel.res,.inl ⟨ht,hI⟩⟩
  subst e
  exact ⟨p,v,h2,A2,S',π',_,hch,hpv,hT,hB.rel.res,.inr hK⟩
 |returned v=>
  obtain ⟨π',ρ',h',A',S',g,hB,_,_,hq⟩:=k3
  have hq:(L.tail=none∧∃k h A,A'=LS.run k h A∧k=L.xs.length∧L.I k h A)∨∃c h A e,A'=LS.jump c h A∧jmp e=some c∧L.K e h A:=by
   rcases hq with ⟨v,h1,A1,e,hq⟩|⟨_,_,_,e,_⟩
   ·cases e
    rcases hq with ⟨ht,h,A,e,hI⟩|hq
    ·exact .inl ⟨ht,_,h,A,e,rfl,hI⟩
    exact .inr hq
   cases e
  have hT:=(hB.trans.weaken hS).shrink (O'':=S') fun b hb=>.inl hb
  have main:∀(st:LoopState) (pe:Option Code) (h1:Nat→Ob) (A1:E.α),st ≠ .busy→Lp C ⟨L.fr,h1,A1,L.df⟩ a ((l,.loop (gO fn a.tmps ps L.assign L.body D st pe))::bs) S' π' w3 →
    ∃o,(Instr.endLoop l).run Pg w3 = .ok pe (w3.putObj l (.loop o))∧cH (fun b=>S b∨N b) w π S' (w3.putObj l (.loop o)) π'∧Lp C ⟨L.fr,h1,A1,L.df⟩ a ((l,.loop o)::bs) S' π' (w3.putObj l (.loop o)):=fun st pe h1 A1 hst HL=>by
   obtain ⟨ρ3,S3,H3,hb3,hS3⟩:=HL
   have hl3:=(hb3 _ (List.mem_cons_self ..)).1
   have hlt3:=(Array.getElem?_eq_some_iff.1 hl3).1
   refine ⟨_,run_endLoop hl3 hst,hT.trans (uI ((hS3 l).2 (.inr ⟨_,List.mem_cons_self ..,rfl⟩))),ρ3,S3,H3.other (hb3 _ (List.mem_cons_self ..)).2 (fun o' ho=>by rw [hl3] at ho;cases ho;rfl),fun p hp=>?_,fun b=>(hS3 b).trans ?_⟩
   ·rcases List.mem_cons.1 hp with rfl|hp
    ·exact ⟨World.putObj_heap_same hlt3,(hb3 _ (List.mem_cons_self ..)).2⟩
    have:=hb3 p (List.mem_cons_of_mem _ hp)
    exact ⟨(World.putObj_heap_other (hlb p hp)).trans this.1,this.2⟩
   simp
  rcases hq with ⟨ht,k,h1,A1,e,hk,hI⟩|⟨c,h1,A1,e,he,hj,hK⟩
  ·subst e
   obtain ⟨o,m1,m2,m3⟩:=main .ready none h1 A1 (by simp) hB.rel.res
   exact ⟨none,h1,A1,S',π',o,m1,m2,m3,ht,hk ▸ hI⟩
  subst he
  obtain ⟨o,m1,m2,m3⟩:=main .done (some c) h1 A1 (by simp) hB.rel.res
  exact ⟨some c,h1,A1,S',π',o,m1,m2,m3,e,hj,hK⟩
theorem aEb (L:Lo C) (ok:L.Ok) {g:Operand} {ps:Array Tmp} (hps:ps.toList=L.ps) {f:FuncId} {ga gb:List G} {id:Nat} {cs:List P} {assign body:Code} (hg:oJ σ.fr g=some (f,ga,gb)) (hent:aJ Pg f)
  (hgb:ga=[]∧gb=[.ref id 0]) (hob:σ.h id = .cells (cs.map .p) 0) (hm1:∀j,(σ.h j).men id=false) (hm2:∀g∈σ.df,g.men id=false) (it:aCq Pg f [.abs,.ref 0 0] (aG [(0,.cells (cs.map .p) 0)]) L.xs L.tail L.pan) (hfr:L.fr=shy id σ.fr) (hdf:L.df=σ.df) (has:L.assign=assign) (hbo:L.body=body) (h0:L.I 0 (upd σ.h id .none) σ.A) {d:Nat} (hd:C.lim≤d)
  {Q:GE→Sg E→Prop} (hK:∀e h A,L.K e h A→h d = .none∧Q e ⟨L.fr,upd h d .mark,A,.mark d::L.df⟩) (hP:∀p h A,((L.tail=some p∧L.I L.xs.length h A)∨L.KP p h A)→h d = .none∧Q (.panic p) ⟨L.fr,upd h d .mark,A,.mark d::L.df⟩) (hI:∀h A,L.tail=none→L.I L.xs.length h A→h d = .none∧Q .normal ⟨L.fr,upd h d .mark,A,.mark d::L.df⟩) :
  ∀a w,Holds C σ a w→∀fn:FuncId,(L.pan=true→(Pg.funcs[fn]?).isSome=true)→∃(l:Nat) (mark:List Deferred) (w₁:World) (d:Deferred) (w₁':World) (f:FuncId) (args:Array Value) (w₂:World),
   (Instr.enterLoop fn a.tmps ps assign body none).run Pg w = .ok (l,mark) w₁ ∧
   (resolve a.eval (rangeCall g l) 0).run Pg w₁ = .ok d w₁' ∧
   (∀f',Target.leads Pg w₁' d.target d.args=some f'→(MF Pg none).fn f') ∧
   (invoke d.target d.args).run Pg w₁' = .ok (.enter f args) w₂ ∧
   ((MF Pg none).depth.isSome=true→1≤0) ∧
   CallsIn (MF Pg none) 0 Pg f args w₂ (rangePost (MF Pg none) 0 Pg l (cE C Q) { a with defers:=mark++a.defers }):=by
 intro a w ⟨π,ρ,S,H⟩ fn hfn
 subst has hbo
 obtain ⟨us,vs,he,hu,hv⟩:=aCj H hg
 let D:=w.heap.size
 let l:=w.heap.size+1
 let rc:=gO fn a.tmps ps L.assign L.body D .ready none
 let w1:=(w.alloc (.deferred (some []))).alloc (.loop rc)
 have hl1:w1.heap[l]? = some (.loop rc):=by
  have:=World.alloc_heap_new (w.alloc (.deferred (some []))) (.loop rc);rwa [World.size_alloc] at this
 have hD1:w1.heap[D]? = some (.deferred (some [])):=(Below.heap_alloc _ _ _ (by simp [D])).trans (World.alloc_heap_new w _)
 have hLS:LSt C ⟨L.fr,upd σ.h id .none,σ.A,L.df⟩ a w1 π ρ S:=by rw [hfr,hdf];exact ((H.ls.drop id hm1 hm2).alloc _).alloc _
 have hor:kI π ρ E.yv w id (.cells (cs.map .p) 0):=hob ▸ H.rel.objs id
 have hlive:bQ ρ id (σ.h id)=some (ρ id).blk:=by rw [hob];rfl
 have hlt:(ρ id).blk<w.heap.size:=(H.rel.objs id).lt hlive
 have hno:∀b,w.heap.size≤b→¬Own ρ (upd σ.h id .none) S b:=fun b hb ho=>by have:=aDc (H.ls.drop id hm1 hm2).rel ho;omega
 let S1:Nat→Prop:=fun b=>Own ρ (upd σ.h id .none) S b∨∃p∈[(l,Obj.loop rc),(D,.deferred (some []))],p.1=b
 have HL:Lp C ⟨L.fr,upd σ.h id .none,σ.A,L.df⟩ a [(l,.loop rc),(D,.deferred (some []))] S1 π w1:=⟨ρ,S,hLS,fun p hp=>by
   simp only [List.mem_cons,List.not_mem_nil,or_false] at hp
   rcases hp with rfl|rfl
   ·exact ⟨hl1,hno _ (by simp [l])⟩
   exact ⟨hD1,hno _ (by simp [D])⟩,fun _=>Iff.rfl⟩
 let N:Nat→Prop:=fun b=>b=(ρ id).blk
 have hT1:cH C.O0 C.w0 C.π0 (fun b=>S1 b∨N b) w1 π:=by
  refine ⟨Nat.le_trans H.trans.size (by simp [w1];omega),H.trans.os,H.trans.tape,H.trans.output,fun b hb hn=>?_,H.trans.le,fun b hb=>?_⟩
  ·have hb':b<w.heap.size:=Nat.lt_of_lt_of_le hb H.trans.size
   refine ⟨?_,(H.trans.keep b hb hn).2⟩
   exact ((Below.heap_alloc _ _ b (by simp;omega)).trans (Below.heap_alloc w _ b hb')).trans (H.trans.keep b hb hn).1
  rcases hb with (hb|⟨p,hp,rfl⟩)|hb
  ·exact H.trans.own b (aLd hb)
  ·have:=H.trans.size
   simp only [List.mem_cons,List.not_mem_nil,or_false] at hp
   rcases hp with rfl|rfl
   ·exact .inr (by simp [l];omega)
   exact .inr (by simp [D];omega)
  exact H.trans.own b (.inr ⟨id,by rw [hlive,show b=(ρ id).blk from hb]⟩)
 obtain ⟨dd,hres,hinv,hld⟩:=uY he hent l w1
 obtain ⟨hga,hgb⟩:=hgb
 subst hga hgb
 simp only [aR,aK] at hu hv
 subst hu
 obtain ⟨_,_,rfl,rfl,rfl⟩:=hv
 have hargs:aR π (fun _=>ρ id) (.func (.yield l) #[] #[]) [.abs,.ref 0 0] ([]++(.func (.yield l) #[] #[]::[.pointer (some ⟨(ρ id).blk,0,none⟩)])):=by
  simp only [aR,aK,List.nil_append];exact ⟨_,_,rfl,rfl,_,_,rfl,rfl,rfl⟩
 have hw1:w1.heap[(ρ id).blk]? = w.heap[(ρ id).blk]?:=(Below.heap_alloc _ _ _ (by simp;omega)).trans (Below.heap_alloc w _ _ hlt)
 have hm0:∀i b,bQ (fun _=>ρ id) i (aG [(0,(.cells (cs.map .p) 0:Ob))] i)=some b→i=0∧b=(ρ id).blk:=fun i b hb=>by
  simp only [aF,aI] at hb
  split at hb
  ·simp only [bQ,Option.some.injEq] at hb;exact ⟨by assumption,hb.symm⟩
  simp [bQ] at hb
 refine ⟨l,[{ target:=.collected D,args:=#[] }],w1,dd,w1,f,_,w1,run_enterLoop_outer _ _ _ _ _,hres,fun f' hf'=>?_,hinv,fun h=>by simp [Fence.wide] at h,?_⟩
 ·trivial
 refine jD ((aFq (N:=N) ok hfn hps (bs:=[(D,.deferred (some []))]) (fun p hp=>by simp at hp;subst hp;simp [D,l]) it h0 HL H.rel.gl (eY (eY H.rel.know _) _) (fun b hb=>?_) hargs (fun y i=>?_) (fun i j b hij hi hj=>hij (((hm0 i b hi).1).trans ((hm0 j b hj).1).symm)) (fun i b hb=>⟨fun hs=>?_,(hm0 i b hb).2⟩)).mono fun e w3 k3=>?_)
 ·rcases hb with hb|⟨p,hp,rfl⟩
  ·have:=aDc (H.ls.drop id hm1 hm2).rel hb;simp [w1];omega
  simp only [List.mem_cons,List.not_mem_nil,or_false] at hp
  rcases hp with rfl|rfl<;>simp [w1,l,D]
  omega
 ·simp only [aF,aI]
  split
  ·obtain ⟨us2,e2,c1,c2,c3,c4,c5⟩:=hor
   refine ⟨us2,e2,hw1.trans c1,.of_PRels (aU.of_VRels c2),c3,c4,c5⟩
  trivial
 ·obtain ⟨_,rfl⟩:=hm0 i b hb
  rcases hs with (hs|⟨j,hs⟩)|⟨p,hp,hs⟩
  ·exact H.rel.sep id _ hlive hs
  ·by_cases ej:j=id
   ·subst ej;rw [aX] at hs;simp [bQ] at hs
   rw [aZ _ _ ej] at hs;exact H.rel.apart j id _ ej hs hlive
  simp only [List.mem_cons,List.not_mem_nil,or_false] at hp
  rcases hp with rfl|rfl<;>simp [l,D] at hs<;>omega
 have build:∀(W:World) (π':PM) (S':Nat→Prop) (h':Nat→Ob) (A':E.α) (o:Loop),cH (fun b=>S1 b∨N b) w1 π S' W π'→Lp C ⟨L.fr,h',A',L.df⟩ a [(l,.loop o),(D,.deferred (some []))] S' π' W→h' d = .none →
   ∃ρ4 S4,St C ⟨L.fr,upd h' d .mark,A',.mark d::L.df⟩ { a with defers:=[{ target:=.collected D,args:=#[] }]++a.defers } W π' ρ4 S4:=fun W π' S' h' A' o hT HLp hhd=>by
  obtain ⟨ρ3,S3,H3,hb3,hS3⟩:=HLp
  have hdm:∀j,(h' j).men d=false:=fun j=>by
   cases hm:(h' j).men d with
   |false=>rfl
   |true=>exact absurd hhd (H3.wfh j d hm)
  have hDb:=hb3 (D,.deferred (some [])) (by simp)
  have R4:=H3.rel.mark hhd hdm hDb.1 hDb.2
  have hne:∀id,h' id ≠ .none→upd h' d Ob.mark id ≠ .none:=fun id hid=>by
   simp only [upd];split
   ·simp
   exact hid
  have hidd:∀id,h' id ≠ .none→upd ρ3 d ⟨D,undef,0⟩ id=ρ3 id:=fun id hid=>aZ _ _ fun e=>hid (e ▸ hhd)
  refine ⟨upd ρ3 d ⟨D,undef,0⟩,S3,H3.size,fun t=>(H3.vals t).mono (PM.le_refl _) fun id hm=>.inl (hidd id (H3.wfr t id hm)),?_,R4,?_,fun j hj=>?_,fun t id hm=>hne id (H3.wfr t id hm),fun j id hm=>?_,fun g hg id hm=>?_⟩
  ·exact ⟨_,_,rfl,by simp [aHd,aX],H3.defs.mono (PM.le_refl _) fun id g hg hm=>.inl (hidd id (H3.wfd g hg id hm))⟩
  ·refine (hT1.trans hT).shrink fun b hb=>(hS3 b).2 ?_
   rcases hb with hb|⟨id,hb⟩
   ·exact .inl (.inl hb)
   by_cases e:id=d
   ·subst e
    simp only [aX,bQ,Option.some.injEq] at hb
    exact .inr ⟨(D,.deferred (some [])),by simp,hb⟩
   simp only [aZ _ _ e] at hb
   refine .inl (.inr ⟨id,?_⟩)
   have e2:upd ρ3 d ⟨D,undef,0⟩ id=ρ3 id:=aZ _ _ e
   show bQ ρ3 id (h' id)=some b
   cases ho:h' id<;>rw [ho] at hb<;>simp only [bQ,e2,reduceCtorEq] at hb ⊢<;>exact hb
  ·rw [aZ _ _ (by omega)];exact H3.step j hj
  ·simp only [upd] at hm
   split at hm
   ·simp [Ob.men] at hm
   exact hne id (H3.wfh j id hm)
  rcases List.mem_cons.1 hg with rfl|hg
  ·simp only [GD.men,beq_iff_eq] at hm
   subst hm
   show upd h' d Ob.mark d ≠ .none
   rw [aX];simp
  exact hne id (H3.wfd g hg id hm)
 cases e with
 |outgrown=>exact k3.elim
 |panicked ch=>
  obtain ⟨p,v,h',A',S',π',o,hch,hpv,hT,HLp,hj⟩:=k3
  obtain ⟨hhd,hq⟩:=hP p h' A' hj
  obtain ⟨ρ4,S4,hSt⟩:=build _ _ _ _ _ _ hT HLp hhd
  exact ⟨_,p,v,π',ρ4,S4,hch,hpv,hSt,hq⟩
 |returned v=>
  obtain ⟨jump,h',A',S',π',o,hend,hT,HLp,hj⟩:=k3
  have hhd:h' d = .none:=by
   cases jump with
   |none=>exact (hI h' A' hj.1 hj.2).1
   |some c=>obtain ⟨e,_,hk⟩:=hj;exact (hK e h' A' hk).1
  obtain ⟨ρ4,S4,hSt⟩:=build _ _ _ _ _ _ hT HLp hhd
  refine ⟨jump,_,hend,?_⟩
  cases jump with
  |none=>exact ⟨_,⟨π',_,S4,hSt⟩,(hI h' A' hj.1 hj.2).2⟩
  |some c=>
   obtain ⟨e,hjm,hk⟩:=hj
   exact aBa hjm ⟨π',_,S4,hSt⟩ (hK e h' A' hk).2
end
section
open Go.RowKit
section
variable {Pg:Program} [Kn Pg] {E:Env Pg} {C:Cx E} {σ:Sg E} {r:Option Nat}
theorem aFr {e:Bool} (L:Lo C) (ok:L.Ok) {g:Operand} {ps:Array Tmp} (hps:ps.toList=L.ps) {f:FuncId} {ga gb:List G} {id:Nat} {cs:List P} {assign body:Code} (hg:oJ σ.fr g=some (f,ga,gb)) (hent:aJ Pg f)
  (hgb:ga=[]∧gb=[.ref id 0]) (hob:σ.h id = .cells (cs.map .p) 0) (hm1:∀j,(σ.h j).men id=false) (hm2:∀g∈σ.df,g.men id=false) (it:aCq Pg f [.abs,.ref 0 0] (aG [(0,.cells (cs.map .p) 0)]) L.xs L.tail L.pan) (hfr:L.fr=shy id σ.fr) (hdf:L.df=σ.df) (has:L.assign=assign) (hbo:L.body=body) (h0:L.I 0 (upd σ.h id .none) σ.A) {d:Nat} (hd:C.lim≤d)
  {Q:GE→Sg E→Prop} (hK:∀e h A,L.K e h A→h d = .none∧Q e ⟨L.fr,upd h d .mark,A,.mark d::L.df⟩) (hP:∀p h A,((L.tail=some p∧L.I L.xs.length h A)∨L.KP p h A)→h d = .none∧Q (.panic p) ⟨L.fr,upd h d .mark,A,.mark d::L.df⟩) (hI:∀h A,L.tail=none→L.I L.xs.length h A→h d = .none∧Q .normal ⟨L.fr,upd h d .mark,A,.mark d::L.df⟩)
  (he:L.pan=true→e=true):qX e C none (.rangeFunc g ps assign body) Q σ:=
 ⟨fun a w H=>uZ fun fn hfn=>aEb L ok hps hg hent hgb hob hm1 hm2 it hfr hdf has hbo h0 hd hK hP hI a w H fn fun hp=>hfn (he hp)⟩
end
variable {Pg:Program} [Kn Pg] {E:Env Pg} {C:Cx E} {r:Option Nat} {ops:Array Oper} {Q:GE→Sg E→Prop} {l:List (Nat×G)} {m:List (Nat×Ob)} {A:E.α} {df:List GD}
def aEc (id:Nat) (l:List (Nat×G)):List (Nat×G):=l.map fun p=>(p.1,bif p.2.men id then .undef else p.2)
def tL (id:Nat):List (Nat×Ob)→List (Nat×Ob)
 |[]=>[]
 |p::m=>bif p.1==id then tL id m else p::tL id m
theorem uJ {id:Nat}:∀ {l:List (Nat×G)},bA (aEc id l)=shy id (bA l)
 |[]=>by funext t;simp [aEc,shy,bA,G.men]
 |p::l=>by
  funext t
  have ih:=congrFun (uJ (id:=id) (l:=l)) t
  simp only [aEc,List.map_cons] at ih ⊢
  rw [aT,ih]
  simp only [shy]
  rw [aT]
  by_cases e:t=p.1
  ·simp only [e,if_true];cases p.2.men id<;>simp
  simp only [e,if_false]
theorem qZ {id:Nat}:∀ {m:List (Nat×Ob)},aG (tL id m)=upd (aG m) id .none
 |[]=>by funext j;simp [tL,upd,aG]
 |p::m=>by
  funext j
  have ih:=congrFun (qZ (id:=id) (m:=m)) j
  simp only [tL]
  by_cases e:p.1=id
  ·rw [show (p.1==id)=true by simpa using e,cond_true,ih]
   simp only [upd]
   by_cases ej:j=id
   ·simp [ej]
   rw [if_neg ej,if_neg ej,aF,if_neg (by rw [e];exact ej)]
  rw [show (p.1==id)=false by simpa using e,cond_false,aF,ih]
  simp only [upd]
  by_cases ej:j=id
  ·rw [if_pos ej,if_pos ej,if_neg (by rw [ej];exact fun h=>e h.symm)]
  rw [if_neg ej,if_neg ej,aF]
theorem aHv {Z:Type} {e:Bool} {ps:Array Nat} {g:Operand} {assign body:Code} {f:FuncId} {ga gb:List G} {l1:List (Nat×G)} {m1:List (Nat×Ob)} {cs:List P} (lim d id:Nat) (psl:List Nat) (xs:List (List Y0)) (tail:Option P) (pan:Bool) (I:Nat→Z→E.α→Prop) (mI:Z→List (Nat×Ob)) (K:GE→Z→E.α→Prop) (mK:GE→Z→List (Nat×Ob)) (KP:P→Z→E.α→Prop) (mP:P→Z→List (Nat×Ob))
  (it:aCq Pg f [.abs,.ref 0 0] (aG [(0,.cells (cs.map .p) 0)]) xs tail pan) (hent:aJ Pg f) (hg:oJ (bA l) g=some (f,ga,gb)) (hgb:ga=[]∧gb=[.ref id 0]) (hob:aG m id = .cells (cs.map .p) 0) (hn1:id∉bO m (m.map (·.1))) (hn2:id∉dM df) (hl1:aEc id l=l1) (hm1:tL id m=m1)
  (hps:ps.toList=psl) (hlim:C.lim≤lim) (hlim2:lim≤90000) (hpn:∀p∈psl,p<C.N) (hlen:∀x∈xs,x.length=psl.length) (hd:C.lim≤d) (wI:∀k z A,I k z A→wU l1 df lim d (mI z)) (wK:∀e z A,K e z A→wU l1 df lim d (mK e z)) (hshp:∀x∈xs,(∃ys:List P,x=ys.map Y0.p)∨∃cs,x=[.o cs]) (wP:∀p z A,KP p z A→pan=true∧wU l1 df lim d (mP p z))
  (h0:∃z,I 0 z A∧mI z=m1)
  (round:∀k z A' x,I k z A'→xs[k]? = some x→∀(lp:Nat) (bs:List (Nat×Obj)) (C1:Cx (E.guard bs)),C1.N=C.N→C1.lim=lim →
   gwp C1 (some lp) assign (fun e σ=>e = .normal∧∀(bs:List (Nat×Obj)) (C2:Cx (E.guard bs)),C2.N=C.N→C2.lim=lim→(∃r0,(lp,Obj.loop r0)∈bs)→gwp C2 (some lp) body (fun e σ=>match e with
    |.normal=>∃σ3 z,Le C2 σ σ3∧σ3.h=aG (mI z)∧I (k+1) z σ3.A
    |.panic p=>σ.df=[]∧∃z,Sub (aG (mP p z)) σ.h∧KP p z σ.A
    |e=>∃σ3 z,Le C2 σ σ3∧σ3.h=aG (mK e z)∧K e z σ3.A) ⟨σ.fr,σ.h,σ.A,σ.df⟩) ⟨aAg (bA l1) psl x,qG (aG (mI z)) x,A',[]⟩)
  (hK:∀e z A',K e z A'→Q e (sg l1 ((d,.mark)::mK e z) A' (.mark d::df))) (hP:∀p z A',KP p z A'→Q (.panic p) (sg l1 ((d,.mark)::mP p z) A' (.mark d::df))) (hT:∀p z A',tail=some p→I xs.length z A'→Q (.panic p) (sg l1 ((d,.mark)::mI z) A' (.mark d::df))) (hI:∀z A',tail=none→I xs.length z A'→Q .normal (sg l1 ((d,.mark)::mI z) A' (.mark d::df)))
  (he:pan=true→e=true):qX e C none (.rangeFunc g ps assign body) Q (sg l m A df):=by
 let L:Lo C:={ fr:=bA l1,df:=df,ps:=psl,assign,body,xs,tail,pan,lim,KP:=fun p h A=>∃z,h=aG (mP p z)∧KP p z A,I:=fun k h A=>∃z,h=aG (mI z)∧I k z A,K:=fun e h A=>∃z,h=aG (mK e z)∧K e z A }
 have ok:L.Ok:=by
  refine ⟨hlim,hlim2,hpn,hlen,hshp,?_,?_,?_,?_⟩
  ·rintro k h A ⟨z,rfl,hI⟩
   exact ⟨(wI k z A hI).wf (L:=L) rfl rfl,fun id=>aCm (wI k z A hI).lt⟩
  ·rintro e h A ⟨z,rfl,hK⟩
   exact (wK e z A hK).wf (L:=L) rfl rfl
  ·rintro p h A ⟨z,rfl,hK⟩
   exact ⟨(wP p z A hK).1,(wP p z A hK).2.wf (L:=L) rfl rfl⟩
  rintro k h A x ⟨z,rfl,hI⟩ hx lp bs C1 hN hL
  refine qC (round k z A x hI hx lp bs C1 hN hL) fun e σ1 hq=>?_
  obtain ⟨rfl,hq⟩:=hq
  intro bs C2 hN2 hL2 hr
  refine qC (hq bs C2 hN2 hL2 hr) fun e σ hq=>?_
  cases e with
  |normal=>obtain ⟨σ3,z,h1,h2,h3⟩:=hq;exact ⟨σ3,h1,z,h2,h3⟩
  |panic p=>obtain ⟨hd0,z,h1,h2⟩:=hq;exact ⟨hd0,_,h1,z,rfl,h2⟩
  |exit i=>obtain ⟨σ3,z,h1,h2,h3⟩:=hq;exact ⟨σ3,h1,z,h2,h3⟩
  |goto i=>obtain ⟨σ3,z,h1,h2,h3⟩:=hq;exact ⟨σ3,h1,z,h2,h3⟩
  |ret=>obtain ⟨σ3,z,h1,h2,h3⟩:=hq;exact ⟨σ3,h1,z,h2,h3⟩
 obtain ⟨z0,hz0,hm0⟩:=h0
 refine aFr (d:=d) L ok hps hg hent hgb hob (fun j=>?_) (fun g hg2=>?_) it (by show bA l1=_;rw [←hl1,uJ]) rfl rfl rfl ⟨z0,by show upd (aG m) id .none=_;rw [hm0,←hm1,qZ],hz0⟩ hd ?_ ?_ ?_ he
 ·cases e2:(aG m j).men id with
  |false=>rfl
  |true=>exact absurd (pO (aCl fun e=>by rw [e] at e2;simp [Ob.men] at e2) e2) hn1
 ·cases e2:g.men id with
  |false=>rfl
  |true=>exact absurd (yD hg2 e2) hn2
 ·rintro e h A ⟨z,rfl,hk⟩
  exact ⟨(wK e z A hk).d,hK e z A hk⟩
 ·rintro p h A (⟨ht,z,rfl,hi⟩|⟨z,rfl,hk⟩)
  ·exact ⟨(wI _ z A hi).d,hT p z A ht hi⟩
  exact ⟨(wP p z A hk).2.d,hP p z A hk⟩
 rintro h A ht ⟨z,rfl,hi⟩
 exact ⟨(wI _ z A hi).d,hI z A ht hi⟩
theorem aNa {id j:Nat} (h:id∉bO m (m.map (·.1))):(aG m j).men id=false:=by
 cases e2:(aG m j).men id with
 |false=>rfl
 |true=>exact absurd (pO (aCl fun e=>by rw [e] at e2;simp [Ob.men] at e2) e2) h
theorem aNb {id:Nat} {g:GD} (h:id∉dM df) (hg:g∈df):g.men id=false:=by
 cases e2:g.men id with
 |false=>rfl
 |true=>exact absurd (yD hg e2) h
theorem aDf {cl:Call} {id:Nat} {cs:List P} {x y:Operand} {t:Nat} {ty:TypeId} {pos:String} {af:Array Edge} {gd:Option (Nat×Bool)} {l1:List (Nat×G)} {m1:List (Nat×Ob)} {K:Sg E→Prop} (hx:cl.callee = .value x) (hw:dO ops (bA l) ⟨some t,.call cl,ty,pos,af,gd⟩=some true) (hy:gev (bA l) x = .abs) (hcl:cl.args.toList=[y]) (hgs:gev (bA l) y = .ref id 0)
  (hob:aG m id = .cells (cs.map .p) 0) (hid:C.lim≤id) (hn1:id∉bO m (m.map (·.1))) (hn2:id∉dM df) (hl1:aEc id l=l1) (hm1:tL id m=m1) (hcan:E.Can A [.o cs]) (ht:t<C.N)
  (k:∀b A',E.Y A [.o cs] (.b b) A'→K (sg ((t,.p (.bool b))::l1) m1 A' df)) (kp:∀p A',E.Y A [.o cs] (.p p) A'→Q (.panic p) (sg l1 m1 A' df)) :
  qV C r ops ⟨some t,.call cl,ty,pos,af,gd⟩ (sg l m A df) K Q:=
 aD1 (o:=⟨some t,.call cl,ty,pos,af,gd⟩) (σ:=sg l m A df) rfl hx hw hy hcl hgs hob hid (fun j=>aNa hn1) (fun g hg=>aNb hn2 hg) hcan (fun t' e=>by cases e;exact ht)
  (fun b A' h=>by have:=k b A' h;rw [←hl1,←hm1] at this;simp only [sg,bA,uJ,qZ] at this;exact this)
  (fun p A' h=>by have:=kp p A' h;rw [←hl1,←hm1] at this;simp only [sg,uJ,qZ] at this;exact this)
end
section
open Go.RowKit
variable {Pg:Program}
def Env.base (Pg:Program):Env Pg where
 α:=Unit
 yv:=.nilFunc
 one:=rfl
 Res:=fun _ S _ _=>∀b,¬S b
 Can:=fun _ _=>False
 Y:=fun _ _ _ _=>False
 stable:=fun h _ _ _ _ _=>h
 ycall:=fun h=>h.elim
def eR (w:World):PM:=fun b o=>w.cell? ⟨b,o,none⟩
variable [Kn Pg]
theorem aJm (w:World) (hg:Kn.good Pg (eR w)):Rel (Env.base Pg) (eR w) (fun _=>⟨0,.nilFunc,0⟩) (aG []) () (fun _=>False) w where
 know:=fun _ _ _ h=>h
 objs:=fun id=>by simp [kI,aI]
 apart:=fun i j b hij h=>by simp [bQ,aI] at h
 sep:=fun i b h=>by simp [bQ,aI] at h
 res:=fun b h=>h
 inb:=fun b h=>h.elim
 gl:=hg
theorem aJn {f:FuncId} {ps:List P} {v:P} {vs:List Value} {w:World} (hs:bF Pg f ps (.ok v)) (hg:Kn.good Pg (eR w)) (hv:aU (eR w) ps vs) :
  Calls Pg f ⟨vs⟩ w fun e w'=>∃u π',e = .returned u∧aS π' v u∧Below w.heap.size w w':=by
 have h:=hs (Env.base Pg) () (eR w) (fun _=>⟨0,.nilFunc,0⟩) (fun _=>False) w vs (aJm w hg) (aR.of_PRels hv)
 refine (h.calls fun _=>room_wide _).mono fun e w' k=>?_
 have key:∀ {π' ρ' h' A' S'},lJ (Env.base Pg) (eR w) (fun _=>⟨0,.nilFunc,0⟩) (aG []) (fun _=>False) w π' ρ' h' A' S' w'→Below w.heap.size w w':=fun b=>by
  have t:=b.trans
  refine ⟨t.os,t.tape,t.output,t.size,fun b hb=>(t.keep b hb fun ho=>?_).1⟩
  rcases ho with ho|⟨id,ho⟩
  ·exact ho
  simp [bQ,aI] at ho
 cases e with
 |returned u=>
  obtain ⟨π',ρ',h',A',S',g,b,hvr,_,hR⟩:=k
  simp only [dT.at,cL.ok.injEq] at hR
  obtain ⟨rfl,_,_⟩:=hR
  exact ⟨u,π',rfl,by simpa only [aK] using hvr,key b⟩
 |panicked chain=>
  obtain ⟨π',ρ',h',A',S',p,v',b,_,_,hR⟩:=k
  simp [dT.at] at hR
 |outgrown=>exact k.elim
end
section
open Go.RowKit
variable {Pg:Program} [Kn Pg] {E:Env Pg} {C:Cx E} {r:Option Nat} {ops:Array Oper} {Q:GE→Sg E→Prop} {l l':List (Nat×G)} {m m':List (Nat×Ob)} {A:E.α} {df:List GD} {σ σ0:Sg E}
theorem yJ {f:FuncId} {args:List P} {p:P} (h:∀π w vs,Kn.good Pg π→(∀b o v,π b o=some v→w.cell? ⟨b,o,none⟩=some v)→aU π args vs →
  Calls Pg f ⟨vs⟩ w fun e w'=>∃v π',e = .returned v∧aS π' p v∧Below w.heap.size w w'∧PM.le π π'∧(∀b o v,π' b o=some v→w'.cell? ⟨b,o,none⟩=some v)∧∀b,b<w.heap.size→π' b=π b):bF Pg f args (.ok p):=by
 intro E A π ρ S w vs R hv
 refine (callsIn_wide.2 (h π w vs R.gl R.know (aU.of_VRels hv))).mono fun e w' k=>?_
 obtain ⟨v,π',rfl,hpv,hb,hle,hk,hs⟩:=k
 have hsame:∀b,b<w.heap.size→w'.heap[b]? = w.heap[b]? ∧ π' b=π b:=fun b hb'=>⟨hb.block b hb',hs b hb'⟩
 have hn:∀i b,bQ ρ i (aG [] i)=some b→False:=fun i b h=>by simp [bQ,aI] at h
 refine ⟨π',ρ,aG [],A,S,.p p,⟨⟨hk,fun id=>by simp [kI,aI],fun i j b _ hi=>(hn i b hi).elim,fun i b hi=>(hn i b hi).elim,E.stable R.res R.inb hb.size (fun b hb'=>hsame b (R.inb b hb')) hle hk,fun b hb'=>Nat.lt_of_lt_of_le (R.inb b hb') hb.size,Kn.mono hle R.gl⟩,
  ⟨hb.size,hb.os,hb.tape,hb.output,fun b hb' _=>hsame b hb',hle,fun b hb'=>.inl hb'⟩,fun _ _=>.inl rfl,fun j id hm=>by simp [Ob.men,aI] at hm⟩,by simpa only [aK] using hpv,fun id hm=>by simp [G.men] at hm,rfl⟩
theorem fW {f:FuncId} {args:List P} {p:P} {v:Value} (hpv:∀π,aS π p v) (h:∀π w vs,Kn.good Pg π→(∀b o v,π b o=some v→w.cell? ⟨b,o,none⟩=some v)→aU π args vs →
  Calls Pg f ⟨vs⟩ w fun e w'=>e = .returned v∧Below w.heap.size w w'):bF Pg f args (.ok p):=
 yJ fun π w vs hg hk hv=>(h π w vs hg hk hv).mono fun e w' ⟨he,hb⟩=>⟨v,π,he,hpv π,hb,PM.le_refl _,fun b o v hv=>by
  have:=hk b o v hv
  have hlt:b<w.heap.size:=World.block_lt_of_cell? w ⟨b,o,none⟩ this
  exact (World.cell?_of_block (hb.block b hlt)).trans this,fun _ _=>rfl⟩
theorem wY {o:Oper} {I:List Nat} {g:G} (hnc:∀cl,o.op ≠ .call cl) (hnd:∀cl,o.op ≠ .defer cl) (hw:dO ops σ.fr o=some true) (hgm:∀id,g.men id=false) (hdst:∀t,o.dst=some t→t<C.N)
  (hrun:∀σ':Sg E,aB8 ops o I σ σ'→∀a w π ρ S,St C σ' a w π ρ S→∃v,(execOp a.eval o).run Pg w = .ok (.value v) w∧aK π ρ E.yv g v):Eff C r ops o σ I g []:=by
 intro σ' hA a w ⟨π,ρ,S,H⟩ K Q hK
 have hwt:=fQ H ((kW hA).trans hw)
 unfold wpO
 rw [hwt]
 simp only [if_true]
 refine ⟨fun f' hf'=>(by rw [kX hnc] at hf';cases hf'),?_⟩
 obtain ⟨v,hr,hv⟩:=hrun σ' hA a w π ρ S H
 have hsem:Oper.semAt (MF Pg r).round a.eval o=execOp a.eval o:=by
  cases r with
  |none=>rfl
  |some l=>exact Oper.semAt_some l _ _ fun cl hcl=>hnd cl hcl
 rw [hsem,hr]
 exact hK _ _ ⟨π,ρ,S,H.putReg hdst hv fun id hm=>by rw [hgm] at hm;cases hm⟩
theorem aJo {o:Oper} {t e:TypeId} {i j:TI} {m gl:Nat} {ix:Operand} {k:IntKind} {n:Int} {x:P} (hop:o.op = .indexAddr t (.global gl) ix) (ht:ti Pg t=some i) (hd:i.desc = .array m e) (he:ti Pg e=some j) (hw:dO ops σ.fr o=some true)
  (hix:gev σ.fr ix = .p (.int k n)) (h0:0≤n) (h1:n<m) (h1x:x.one=true) (hx:∀π,Kn.good Pg π→∃u,π gl (n.toNat*j.size)=some u∧aS π x u) (hdst:∀t,o.dst=some t→t<C.N):Eff C r ops o σ [] (.ptr [.p x]) []:=
 wY (fun cl h=>by rw [hop] at h;cases h) (fun cl h=>by rw [hop] at h;cases h) hw (fun id=>rfl) hdst fun σ' hA a w π ρ S H=>by
  have hix':gev σ'.fr ix = .p (.int k n):=by rw [nY hA ix (by rw [hop];simp [Op.operands])];exact hix
  have vx:=fP H ix
  rw [hix'] at vx
  simp only [aK,aS] at vx
  obtain ⟨u,hu,hr⟩:=hx π H.rel.gl
  obtain ⟨dst,op,ty,pos,af,gd⟩:=o
  simp only at hop
  subst hop
  refine ⟨.pointer (some ⟨gl,0+n.toNat*j.size,none⟩),?_,?_⟩
  ·have:=jT ht hd he k n gl 0 h0 h1 w
   have hg:a.eval (.global gl) = .pointer (some ⟨gl,0,none⟩):=rfl
   simp [execOp,hg,vx,this]
  simp only [aK,eP]
  exact ⟨_,_,rfl,⟨u,by rw [Nat.zero_add];exact hu,hr,h1x⟩,trivial⟩
theorem aBe:∀l:List UInt8,(l.map fun b=>P.int .u8 (b.toNat:Int)).flatMap P.cells=l.map fun b=>P.int .u8 (b.toNat:Int)
 |[]=>rfl
 |b::l=>by simp only [List.map_cons,List.flatMap_cons,aBe l];rfl
theorem aLe {o:Oper} {t d e:TypeId} {i j:TI} {x:Operand} {l:List UInt8} (hop:o.op = .convert t d x) (ht:ti Pg t=some i) (hd:i.desc = .slice e) (he:Pg.underlying e=some (.int .u8)) (hj:ti Pg d=some j) (hdj:j.desc = .string) (hw:dO ops σ.fr o=some true)
  (hx:gev σ.fr x = .p (.list (l.map fun b=>.int .u8 b.toNat))) (hdst:∀t,o.dst=some t→t<C.N):Eff C r ops o σ [] (.p (.str l)) []:=
 wY (fun cl h=>by rw [hop] at h;cases h) (fun cl h=>by rw [hop] at h;cases h) hw (fun id=>rfl) hdst fun σ' hA a w π ρ S H=>by
  have hx':gev σ'.fr x = .p (.list (l.map fun b=>.int .u8 b.toNat)):=by rw [nY hA x (by rw [hop];simp [Op.operands])];exact hx
  have vx:=fP H x
  rw [hx'] at vx
  simp only [aK,aS] at vx
  obtain ⟨ad,len,cap,ev,hl,hc,hcell⟩:=vx
  obtain ⟨_,_,hu1,_⟩:=dC ht
  obtain ⟨_,_,hu2,_⟩:=dC hj
  rw [hd] at hu1
  rw [hdj] at hu2
  rw [List.length_map] at hl
  obtain ⟨dst,op,ty,pos,af,gd⟩:=o
  simp only at hop
  subst hop
  refine ⟨.string ⟨⟨l⟩⟩,?_,by simp only [aK,aS]⟩
  rcases hcell with ⟨rfl,rfl⟩|⟨b,o,rfl,hel⟩
  ·have hl0:l=[]:=List.eq_nil_of_length_eq_zero (by omega)
   subst hl0
   have:=run_convert_bytes_nil (P:=Pg) (w:=w) t e hu1 he len 0 d hu2
   simp [execOp,ev,this]
   rfl
  have hrow:=bE.row.1 hel
  have:=run_convert_bytes_back (P:=Pg) w t d e ⟨b,o,none⟩ cap l hu1 he hu2 (fun j hj=>by
   obtain ⟨u,hu,hr,_⟩:=hrow.get j (.int .u8 (l[j].toNat:Int)) (by
    have:(l.map fun b=>P.int .u8 (b.toNat:Int)).flatMap P.cells=l.map fun b=>P.int .u8 (b.toNat:Int):=by
     exact aBe l
    rw [this,List.getElem?_map,List.getElem?_eq_getElem hj];rfl)
   simp only [aS] at hr
   subst hr
   rw [pM]
   exact H.rel.know _ _ _ hu)
  rw [hl] at ev
  simp [execOp,ev,this]
theorem aLf {o:Oper} {t d e:TypeId} {i j:TI} {x:Operand} {l:List UInt8} {id off fz:Nat} {cs:List G} (hop:o.op = .convert t d x) (ht:ti Pg t=some i) (hd:i.desc = .slice e) (he:Pg.underlying e=some (.int .u8)) (hj:ti Pg d=some j) (hdj:j.desc = .string) (hw:dO ops σ.fr o=some true)
  (hx:gev σ.fr x = .fsl id off l.length) (ho:σ.h id = .cells cs fz) (hl:(cs.drop off).take l.length=l.map fun b=>.p (.int .u8 b.toNat)) (hdst:∀t,o.dst=some t→t<C.N):Eff C r ops o σ [id] (.p (.str l)) []:=
 wY (fun cl h=>by rw [hop] at h;cases h) (fun cl h=>by rw [hop] at h;cases h) hw (fun id=>rfl) hdst fun σ' hA a w π ρ S H=>by
  have hx':gev σ'.fr x = .fsl id off l.length:=by rw [nY hA x (by rw [hop];simp [Op.operands])];exact hx
  have ho':σ'.h id = .cells cs fz:=(hA.h id (by simp)).trans ho
  have vx:=fP H x
  rw [hx'] at vx
  simp only [aK] at vx
  obtain ⟨cap,ev,hc⟩:=vx
  have hob:=H.rel.objs id
  rw [ho'] at hob
  obtain ⟨vs,et,hwv,hr,hone,_⟩:=hob
  obtain ⟨_,_,hu1,_⟩:=dC ht
  obtain ⟨_,_,hu2,_⟩:=dC hj
  rw [hd] at hu1
  rw [hdj] at hu2
  obtain ⟨dst,op,ty,pos,af,gd⟩:=o
  simp only at hop
  subst hop
  refine ⟨.string ⟨⟨l⟩⟩,?_,by simp only [aK,aS]⟩
  have:=run_convert_bytes_back (P:=Pg) w t d e ⟨(ρ id).blk,off,none⟩ cap l hu1 he hu2 (fun j hj=>by
   have h2:cs[off+j]? = some (.p (.int .u8 (l[j].toNat:Int))):=by
    have:=congrArg (fun z=>z[j]?) hl
    simp only [List.getElem?_take,hj,if_true,List.getElem?_drop,List.getElem?_map,List.getElem?_eq_getElem hj,Option.map_some] at this
    exact this
   obtain ⟨u,hu,hr2⟩:=hr.get _ _ h2
   simp only [aK,aS] at hr2
   subst hr2
   simp only [pM,World.cell?,hwv]
   simpa using hu)
  simp [execOp,ev,this]
end
section
open Go.RowKit
variable {Pg:Program} [Kn Pg] {E:Env Pg} {C:Cx E} {r:Option Nat} {ops:Array Oper} {σ:Sg E}
theorem aEd {d:TypeId} {n:Nat} {e:TypeId} (hu:Pg.underlying d=some (.array n e)) (a:Option Addr) (len cap:Nat) (hl:n≤len) (w:World):(Instr.arrayAt d (.slice a len cap)).run Pg w = .ok (.pointer a) w:=by
 unfold Instr.arrayAt
 have h:¬len<n:=by omega
 simp [underlying,hu,h]
theorem aJp {o:Oper} {d e:TypeId} {i:TI} {n:Nat} {x:Operand} {xs:List P} (hop:o.op = .sliceToArrayPointer d x) (ht:ti Pg d=some i) (hd:i.desc = .array n e) (hw:dO ops σ.fr o=some true)
  (hx:gev σ.fr x = .p (.list xs)) (hl:xs.length=n) (h0:0<n) (h1:∀p∈xs,p.one=true) (hdst:∀t,o.dst=some t→t<C.N):Eff C r ops o σ [] (.ptr (xs.map .p)) []:=
 wY (fun cl h=>by rw [hop] at h;cases h) (fun cl h=>by rw [hop] at h;cases h) hw (fun id=>by
  show G.mens id (xs.map .p)=false
  have:∀l:List P,G.mens id (l.map .p)=false:=fun l=>by induction l with|nil=>rfl|cons a l ih=>simp [G.mens,G.men,ih]
  exact this xs) hdst fun σ' hA a w π ρ S H=>by
  have hx':gev σ'.fr x = .p (.list xs):=by rw [nY hA x (by rw [hop];simp [Op.operands])];exact hx
  have vx:=fP H x
  rw [hx'] at vx
  simp only [aK,aS] at vx
  obtain ⟨ad,len,cap,ev,hln,hc,hcell⟩:=vx
  obtain ⟨_,_,hu,_⟩:=dC ht
  rw [hd] at hu
  obtain ⟨dst,op,ty,pos,af,gd⟩:=o
  simp only at hop
  subst hop
  rcases hcell with ⟨rfl,rfl⟩|⟨b,o,rfl,hel⟩
  ·omega
  refine ⟨.pointer (some ⟨b,o,none⟩),?_,?_⟩
  ·have:=aEd hu (some ⟨b,o,none⟩) len cap (by omega) w
   simp [execOp,ev,this]
  simp only [aK]
  have hrow:=bE.row.1 hel
  rw [wW h1] at hrow
  exact ⟨b,o,rfl,eP.of_PRow hrow⟩
theorem aJq (id:Nat):∀l:List P,G.mens id (l.map .p)=false
 |[]=>rfl
 |a::l=>by simp [G.mens,G.men,aJq id l]
theorem Le.ptrReg {t:Nat} {cs:List P} (hr:σ.fr t = .p (.ptr cs)):Le C σ { σ with fr:=upd σ.fr t (.ptr (cs.map .p)) }:=fun a w ⟨π,ρ,S,H⟩=>
 ⟨π,ρ,S,H.size,fun k=>by
  show aK π ρ E.yv (upd σ.fr t _ k) _
  simp only [upd]
  split
  ·rename_i e;subst e
   have hv:=H.vals k
   rw [hr] at hv
   simp only [aK,aS] at hv ⊢
   obtain ⟨b,o,e,hrow⟩:=hv
   exact ⟨b,o,e,eP.of_PRow hrow⟩
  ·exact H.vals k,H.defs,H.rel,H.trans,H.step,fun k i hm=>by
  replace hm:(upd σ.fr t _ k).men i=true:=hm
  simp only [upd] at hm
  split at hm
  ·simp only [G.men,aJq] at hm;cases hm
  exact H.wfr k i hm,H.wfh,H.wfd⟩
theorem aLg {c:Code} {Q:GE→Sg E→Prop} {l:List (Nat×G)} {m:List (Nat×Ob)} {A:E.α} {df:List GD} {cs:List P} {g:List G} (t:Nat) (hr:bA l t = .p (.ptr cs)) (hg:cs.map G.p=g)
  (k:gwp C r c Q (sg ((t,.ptr g)::l) m A df)):gwp C r c Q (sg l m A df):=by
 subst hg
 exact oC (Le.ptrReg (σ:=sg l m A df) hr) k
end
section
open Go.RowKit
variable {Pg:Program} [Kn Pg] {E:Env Pg} {C:Cx E} {σ σ0:Sg E} {a:Act} {w:World} {π:PM} {ρ:RM} {S:Nat→Prop}
section
variable {R:Nat→Rec} {lo:Nat} {X:Nat→Bool} {Jq:List (Nat×Ob)}
end
section
variable {r:Option Nat} {ops:Array Oper} {QE:Exit→Act→World→Prop} {lo q0:Nat} {Jq:List (Nat×Ob)} {Aft:List Nat} {ids:List (List Nat×List Nat)}
end
end
section
open Go.RowKit
variable {Pg:Program} [Kn Pg] {E:Env Pg} {C:Cx E} {σ:Sg E}
end
section
open Go.RowKit
variable {Pg:Program} [Kn Pg] {E:Env Pg} {C:Cx E} {r:Option Nat} {ops:Array Oper} {Q:GE→Sg E→Prop} {l:List (Nat×G)} {m:List (Nat×Ob)} {A:E.α} {df:List GD} {σ0 σ1:Sg E}
theorem aFs {R:Nat→Rec} {i j:Nat} {oi oj:Oper} {di dj:List Nat×List Nat} (ho1:ops[i]? = some oi) (ho2:ops[j]? = some oj) (e1:(R i).dst=oi.dst) (e2:(R j).dst=oj.dst)
  (ha:(R i).I=di.1∧(R i).ps.map (·.1)=di.2) (hb:(R j).I=dj.1∧(R j).ps.map (·.1)=dj.2) (h:aA1 ops.toList oi oj di dj=true):aFa ops R i j:=by
 obtain ⟨a1,a2⟩:=ha
 obtain ⟨b1,b2⟩:=hb
 simp only [aA1,Bool.and_eq_true,aCf,List.all_eq_true] at h
 obtain ⟨⟨⟨c1,c2⟩,c3⟩,c4⟩:=h
 refine ⟨fun o ho t ht e=>?_,fun o ho t ht e=>?_,fun t ht e=>?_,fun p hp hx=>?_,fun p hp hx=>?_,fun p hp q hq e=>?_⟩
 ·rw [ho2] at ho;cases ho
  rw [←e1,e] at c1
  simp at c1
  exact c1.1 ht
 ·rw [ho1] at ho;cases ho
  rw [←e2,e] at c2
  simp at c2
  exact c2 ht
 ·rw [←e1,ht] at c1
  rw [←e2,e] at c1
  simp at c1
 ·have:=c3 p.1 (by rw [←a2];exact List.mem_map.2 ⟨p,hp,rfl⟩)
  rw [b1] at hx
  simp at this
  exact this.1 hx
 ·have:=c4 p.1 (by rw [←b2];exact List.mem_map.2 ⟨p,hp,rfl⟩)
  rw [a1] at hx
  simp at this
  exact this hx
 have:=c3 p.1 (by rw [←a2];exact List.mem_map.2 ⟨p,hp,rfl⟩)
 simp at this
 refine this.2 ?_
 rw [←b2,e]
 exact List.mem_map.2 ⟨q,hq,rfl⟩
theorem aEe {cl:Call} {f:FuncId} {gs gargs:List G} {J:List Nat} {L:List (Nat×Nat)} {mc mr:List (Nat×Ob)} {ks:List Nat} {ad:Option (Nat×Ob)} {t:Nat} {ty:TypeId} {pos:String} {af:Array Edge} {gd:Option (Nat×Bool)} {v:P} {cp:Prop} {K:Sg E→Prop}
  (spec:bD E f gargs (aG mc) A fun y=>y = .panic v (aG mr) A) (hent:aJ Pg f) (hw:dO ops (bA l) ⟨some t,.call cl,ty,pos,af,gd⟩=some true) (hg:cI Pg (bA l) cl=some (f,gs)) (ha:iF C.lim (aG m) L ad) (hcv:kF (rhp (aG m) J) (ad.map (·.1)) ks gs=some (cp,G.rens (dB L) gargs)) (hc:cp)
  (hp:kZ C.lim L (dH (aG m) ad) (aG mc)) (hdis:∀d ob,ad=some (d,ob)→d∉J) (hb:gK L (aG mc) (aG mr)) (ht:t<C.N)
  (k:Q (.panic v) ⟨bA l,cU (aG m) (cR L (aG mr)),A,df⟩):qV C r ops ⟨some t,.call cl,ty,pos,af,gd⟩ (sg l m A df) K Q:=by
 refine aA6 (o:=⟨some t,.call cl,ty,pos,af,gd⟩) (σ:=sg l m A df) rfl hw hg hent ha hcv hc hp hdis spec (fun g h' A' e=>?_) (fun p h' A' e=>?_) (fun t' e=>by cases e;exact ht)
 ·cases e
 cases e;exact ⟨hb,k⟩
end
section
open Go.RowKit
variable {Pg:Program} [Kn Pg] {E:Env Pg} {C:Cx E} {r:Option Nat} {ops:Array Oper} {Q:GE→Sg E→Prop} {l:List (Nat×G)} {m:List (Nat×Ob)} {A:E.α} {df:List GD} {σ0 σ σ1:Sg E}
structure qI (C:Cx E) (r:Option Nat) (ops:Array Oper) (QE:Exit→Act→World→Prop) (lo n:Nat) (σ0 σ1:Sg E) (ids:List (Option (List Nat×List Nat))) (σ:Sg E):Prop where
 run:(∃R:Nat→Rec,(∀m x,ids[m]? = some (some x)→(R (lo+m)).I=x.1∧(R (lo+m)).ps.map (·.1)=x.2)∧(∀m,ids[m]? = some none→(R (lo+m)).dst=none∧(R (lo+m)).ps=[]) ∧
  (∀m x,ids[m]? = some (some x)→∃o,ops[lo+m]? = some o∧(R (lo+m)).dst=o.dst∧Eff C r ops o (cD R lo σ0 (fun _=>true) m) (R (lo+m)).I (R (lo+m)).g (R (lo+m)).ps) ∧
  cD R lo σ0 (fun _=>true) n=σ1∧cD R lo σ0 (fun _=>true) ids.length=σ)→qB C r ops QE lo σ0
theorem qI.start {QE:Exit→Act→World→Prop} {lo n:Nat} {ids:List (List Nat×List Nat)} (hn:ids.length=n) (h:qI C r ops QE lo n σ0 σ1 (ids.map some++[none]) σ1):eT C r ops QE lo σ0 ids σ1:=⟨fun ⟨R,h1,h2,h3⟩=>by
 subst hn
 let R':Nat→Rec:=fun k=>if k=lo+ids.length then ⟨none,.undef,[],[]⟩ else R k
 have hR:∀k,k<ids.length→R (lo+k)=R' (lo+k):=fun k hk=>by simp only [R'];rw [if_neg (by omega)]
 have hRn:R' (lo+ids.length)=⟨none,.undef,[],[]⟩:=by simp only [R',if_true]
 have hst:∀m,m≤ids.length→cD R' lo σ0 (fun _=>true) m=cD R lo σ0 (fun _=>true) m:=fun m hm=>(pF m fun k hk=>hR k (by omega)).symm
 have hin:∀m x,(ids.map some++[none])[m]? = some (some x)→m<ids.length∧ids[m]? = some x:=fun m x hx=>by
  by_cases hm:m<ids.length
  ·rw [List.getElem?_append_left (by simpa using hm),List.getElem?_map] at hx
   cases e:ids[m]? with
   |none=>rw [e] at hx;cases hx
   |some y=>rw [e] at hx;cases hx;exact ⟨hm,rfl⟩
  rw [List.getElem?_append_right (by simp;omega)] at hx
  have:m - (ids.map some).length=0:=by
   have:=(List.getElem?_eq_some_iff.1 hx).1
   simp at this;simp;omega
  rw [this] at hx
  simp at hx
 refine h.run ⟨R',fun m x hx=>?_,fun m hx=>?_,fun m x hx=>?_,?_,?_⟩
 ·obtain ⟨hm,hx⟩:=hin m x hx
  rw [←hR m hm]
  exact h1 m x hx
 ·have hm:m=ids.length:=by
   by_cases hm:m<ids.length
   ·rw [List.getElem?_append_left (by simpa using hm),List.getElem?_map] at hx
    rw [List.getElem?_eq_getElem hm] at hx
    simp at hx
   have:=(List.getElem?_eq_some_iff.1 hx).1
   simp at this;omega
  rw [hm,hRn]
  exact ⟨rfl,rfl⟩
 ·obtain ⟨hm,_⟩:=hin m x hx
  rw [←hR m hm,hst m (by omega)]
  exact h2 m hm
 ·rw [hst _ (Nat.le_refl _)];exact h3
 rw [List.length_append,List.length_map]
 simp only [List.length_cons,List.length_nil,Nat.zero_add,cD,if_true,hRn,hst _ (Nat.le_refl _),h3]
 rfl⟩
theorem qI.step {QE:Exit→Act→World→Prop} {lo n k:Nat} {ids:List (Option (List Nat×List Nat))} {x:Option (List Nat×List Nat)} {rc:Rec} (hk:ids.length=k) (hnk:n≤k) (h1:∀y,x=some y→rc.I=y.1∧rc.ps.map (·.1)=y.2∧∃o,ops[lo+k]? = some o∧rc.dst=o.dst∧Eff C r ops o σ rc.I rc.g rc.ps) (h2:x=none→rc.dst=none∧rc.ps=[])
  (h:qI C r ops QE lo n σ0 σ1 (ids++[x]) (σ.put rc.dst rc.g rc.ps)):qI C r ops QE lo n σ0 σ1 ids σ:=⟨fun ⟨R,k1,k2,k3,k4,k5⟩=>by
 subst hk
 let R':Nat→Rec:=fun k=>if k=lo+ids.length then rc else R k
 have hR:∀k,k<ids.length→R (lo+k)=R' (lo+k):=fun k hk=>by simp only [R'];rw [if_neg (by omega)]
 have hRn:R' (lo+ids.length)=rc:=by simp only [R',if_true]
 have hst:∀m,m≤ids.length→cD R' lo σ0 (fun _=>true) m=cD R lo σ0 (fun _=>true) m:=fun m hm=>(pF m fun k hk=>hR k (by omega)).symm
 have hcase:∀m y,(ids++[x])[m]? = some y→(m<ids.length∧ids[m]? = some y)∨(m=ids.length∧x=y):=fun m y hy=>by
  by_cases hm:m<ids.length
  ·rw [List.getElem?_append_left hm] at hy;exact .inl ⟨hm,hy⟩
  rw [List.getElem?_append_right (by omega)] at hy
  have:m - ids.length=0:=by
   have:=(List.getElem?_eq_some_iff.1 hy).1
   simp at this;omega
  rw [this] at hy
  simp at hy
  exact .inr ⟨by omega,hy⟩
 refine h.run ⟨R',fun m y hy=>?_,fun m hy=>?_,fun m y hy=>?_,?_,?_⟩
 ·rcases hcase m _ hy with ⟨hm,hz⟩|⟨rfl,hz⟩
  ·rw [←hR m hm];exact k1 m y hz
  rw [hRn];exact ⟨(h1 y hz).1,(h1 y hz).2.1⟩
 ·rcases hcase m _ hy with ⟨hm,hz⟩|⟨rfl,hz⟩
  ·rw [←hR m hm];exact k2 m hz
  rw [hRn];exact h2 hz
 ·rcases hcase m _ hy with ⟨hm,hz⟩|⟨rfl,hz⟩
  ·rw [←hR m hm,hst m (by omega)];exact k3 m y hz
  rw [hRn,hst _ (Nat.le_refl _),k5];exact (h1 y hz).2.2
 ·rw [hst n hnk];exact k4
 simp only [List.length_append,List.length_cons,List.length_nil,cD,if_true,hRn,hst _ (Nat.le_refl _),k5]⟩
def aNc (tab:List Nat) (l:List Oper) (lo n:Nat) (ids:List (Option (List Nat×List Nat))) (vs:List Nat):Bool:=
 decide (lo+ids.length=l.length)&&(ids[n]? == some none) &&
 ((List.range ids.length).all fun j=>match ids[j]? with
  |some (some dj)=>((List.range j).all fun i=>match ids[i]? with
    |some (some di)=>(tab.getD (lo+j) 0).testBit (lo+i) || (match l[lo+i]?,l[lo+j]? with
     |some oi,some oj=>aA1 l oi oj di dj
     |_,_=>false)
    |_=>true) &&
   (decide (j<n)&&(tab.getD (lo+n) 0).testBit (lo+j) || (dj.2.isEmpty&&(match l[lo+j]? with
    |some oj=>vs.all fun v=>!(oj.dst==some v)
    |none=>false)))
  |_=>decide (j=n) || (tab.getD (lo+j) 0).testBit (lo+n))
theorem qI.stop {lo n:Nat} {ids:List (Option (List Nat×List Nat))} {oj:Oper} {vs:List Nat} {fr:Nat→G} (tab:List Nat) (ho:ops[lo+n]? = some oj) (hw:oD tab ops.toList 0=true) (hp:aNc tab ops.toList lo n ids vs=true) (hfr:∀t,(t∈vs∧fr t=σ1.fr t)∨fr t = .undef)
  (h1:qV C r ops oj { σ1 with fr:=fr } (fun _=>False) Q):qI C r ops (cE C Q) lo n σ0 σ1 ids σ:=⟨fun ⟨R,k1,k2,k3,k4,k5⟩=>by
 simp only [aNc,Bool.and_eq_true,List.all_eq_true,List.mem_range,decide_eq_true_eq,beq_iff_eq,Array.length_toList] at hp
 obtain ⟨⟨hsize,hnn⟩,hp⟩:=hp
 have hB:=aAT.of hw
 have hnl:n<ids.length:=(List.getElem?_eq_some_iff.1 hnn).1
 let len:=ids.length
 have hlen:lo+len=ops.size:=hsize
 have hor:∀q,q<len→ids[q]? = some none∨∃x,ids[q]? = some (some x):=fun q hq=>by
  rw [List.getElem?_eq_getElem hq]
  cases ids[q] with
  |none=>exact .inl rfl
  |some x=>exact .inr ⟨x,rfl⟩
 have hdead:∀q,ids[q]? = some none→q≠n→(tab.getD (lo+q) 0).testBit (lo+n)=true:=fun q hq hqn=>by
  have:=hp q (List.getElem?_eq_some_iff.1 hq).1
  rw [hq] at this
  simp only [Bool.or_eq_true,decide_eq_true_eq] at this
  rcases this with h|h
  ·exact absurd h hqn
  exact h
 have hforce:∀q x,ids[q]? = some (some x)→(q<n∧(tab.getD (lo+n) 0).testBit (lo+q)=true)∨((R (lo+q)).ps=[]∧∀v∈vs,(R (lo+q)).dst≠some v):=fun q x hq=>by
  have:=hp q (List.getElem?_eq_some_iff.1 hq).1
  rw [hq] at this
  simp only [Bool.and_eq_true,Bool.or_eq_true,decide_eq_true_eq] at this
  rcases this.2 with h|⟨h2,h3⟩
  ·exact .inl h
  obtain ⟨o,ho',e1,_⟩:=k3 q x hq
  have ho2:ops.toList[lo+q]? = some o:=by simpa using ho'
  rw [ho2] at h3
  refine .inr ⟨?_,fun v hv e=>?_⟩
  ·have h4:=(k1 q x hq).2
   rw [List.isEmpty_iff] at h2
   rw [h2] at h4
   exact List.map_eq_nil_iff.1 h4
  have:=List.all_eq_true.1 h3 v hv
  rw [←e1,e] at this
  simp at this
 have hfree:∀i j x y,i<j→ids[i]? = some (some x)→ids[j]? = some (some y)→Bef ops.size tab (lo+i) (lo+j)∨aFa ops R (lo+i) (lo+j):=fun i j x y hij hi hj=>by
  obtain ⟨oi,ho1,e1,_⟩:=k3 i x hi
  obtain ⟨oj,ho2,e2,_⟩:=k3 j y hj
  have ho1':ops.toList[lo+i]? = some oi:=by simpa using ho1
  have ho2':ops.toList[lo+j]? = some oj:=by simpa using ho2
  have hjl:lo+j<ops.size:=(Array.getElem?_eq_some_iff.1 ho2).1
  have:=hp j (List.getElem?_eq_some_iff.1 hj).1
  rw [hj] at this
  simp only [Bool.and_eq_true,List.all_eq_true,List.mem_range] at this
  have:=this.1 i hij
  rw [hi,ho1',ho2'] at this
  simp only [Bool.or_eq_true] at this
  rcases this with h|h
  ·exact .inl ⟨hjl,h⟩
  exact .inr (aFs ho1 ho2 e1 e2 (k1 i x hi) (k1 j y hj) h)
 have main:∀(c:Nat) (listed:Array Bool) (a:Act) (w:World),listed.size=ops.size→cnt (lst listed) lo len=c→(∀k,k<lo→lst listed k=true)→lst listed (lo+n)=false →
   (∀j o,ops[j]? = some o→lo≤j→j<ops.size→lst listed j=true→∀e∈o.after,Region.binds .any e=true→lst listed e.on=true) →
   Holds C (cD R lo σ0 (lst listed) len) a w→wpAnyIn (MF Pg r) 0 Pg .any ops (cE C Q) c listed a w:=by
  intro c
  induction c with
  |zero=>
   intro listed a w hsz hc hlow hjp hdc H
   have:=wL hc n hnl
   rw [hjp] at this;cases this
  |succ c ih=>
   intro listed a w hsz hc hlow hjp hdc H
   have hB':∀j,(∀o,ops[j]? = some o→∀e∈o.after,Region.binds .any e=true→lst listed e.on=true)→∀i,lo≤i→Bef ops.size tab i j→lst listed i=true:=by
    intro j
    induction j using Nat.strongRecOn with
    |_ j ihj=>
     intro hj i hi hb
     obtain ⟨o,ho,e,he,hbe,hcase⟩:=hB.up i j hb
     have hon:=hj o ho e he hbe
     rcases hcase with rfl|hb'
     ·exact hon
     have hlt:=hB.low j o ho e he hbe
     refine ihj e.on hlt (fun o' ho' e' he' hbe'=>?_) i hi hb'
     by_cases h1:e.on<lo
     ·have:=hB.low _ _ ho' _ he' hbe'
      exact hlow _ (by omega)
     have hlt2:e.on<ops.size:=(Array.getElem?_eq_some_iff.1 ho').1
     exact hdc _ _ ho' (by omega) hlt2 hon _ he' hbe'
   have hlive:∀q,q<len→lst listed (lo+q)=true→∃x,ids[q]? = some (some x):=fun q hq hx=>by
    rcases hor q hq with h|h
    ·by_cases hqn:q=n
     ·subst hqn;rw [hjp] at hx;cases hx
     have:=hB' (lo+q) (fun o ho e he hbe=>hdc _ o ho (by omega) (by omega) hx e he hbe) (lo+n) (by omega) ⟨by omega,hdead q h hqn⟩
     rw [hjp] at this;cases this
    exact h
   obtain ⟨q0,hq0,hx0,hfirst⟩:=xY (X:=lst listed) (lo:=lo) (m:=len) (by omega)
   have hne:Region.ready .any ops listed≠[]:=by
    intro hnil
    have hmem:lo+q0∈Region.ready .any ops listed:=by
     obtain ⟨o,ho⟩:∃o,ops[lo+q0]? = some o:=⟨ops[lo+q0],by rw [Array.getElem?_eq_getElem]⟩
     refine mem_ready.2 ⟨hx0,o,ho,fun e he hbe=>?_⟩
     have hlt:=hB.low _ _ ho e he hbe
     have hl:lst listed e.on=true:=by
      by_cases h1:e.on<lo
      ·exact hlow _ h1
      have:=hfirst (e.on - lo) (by omega)
      rwa [show lo+(e.on - lo)=e.on by omega] at this
     have hsz':e.on<listed.size:=by omega
     simp only [lst,Array.getD_eq_getD_getElem?,Array.getElem?_eq_getElem hsz',Option.getD_some] at hl ⊢
     exact hl
    rw [hnil] at hmem;cases hmem
   refine ⟨fun h0=>absurd h0 hne,fun i hi=>?_⟩
   obtain ⟨hun,o,ho',hall⟩:=mem_ready.1 hi
   have hilt:i<ops.size:=(Array.getElem?_eq_some_iff.1 ho').1
   have hallt:∀e∈o.after,Region.binds .any e=true→lst listed e.on=true:=fun e he hbe=>by
    have h1:=hall e he hbe
    have hlt:=hB.low _ _ ho' e he hbe
    have hsz':e.on<listed.size:=by omega
    simp only [lst,Array.getD_eq_getD_getElem?,Array.getElem?_eq_getElem hsz',Option.getD_some] at h1 ⊢
    exact h1
   have hallt':∀o',ops[i]? = some o'→∀e∈o'.after,Region.binds .any e=true→lst listed e.on=true:=fun o' h'=>by rw [ho'] at h';cases h';exact hallt
   have hilo:lo≤i:=by
    apply Nat.le_of_not_lt;intro h1
    rw [show listed.getD i true=lst listed i from rfl,hlow i h1] at hun;cases hun
   obtain ⟨q,rfl⟩:∃q,i=lo+q:=⟨i - lo,by omega⟩
   have hqlen:q<len:=by omega
   have hXq:lst listed (lo+q)=false:=hun
   by_cases hqn:q=n
   ·
    rw [hqn] at ho' hallt' ⊢
    rw [ho] at ho';cases ho'
    have hbef:∀k,k<n→(tab.getD (lo+n) 0).testBit (lo+k)=true→lst listed (lo+k)=true:=fun k hk hb=>hB' (lo+n) hallt' (lo+k) (by omega) ⟨by omega,hb⟩
    have hout:∀k,k<n→lst listed (lo+k)=false→(R (lo+k)).ps=[]∧∀v∈vs,(R (lo+k)).dst≠some v:=fun k hk hx=>by
     rcases hor k (by omega) with h|⟨x,h⟩
     ·obtain ⟨a1,a2⟩:=k2 k h
      exact ⟨a2,fun v _ e=>by rw [a1] at e;cases e⟩
     rcases hforce k x h with ⟨_,h3⟩|h3
     ·rw [hbef k hk h3] at hx;cases hx
     exact h3
    have hin:∀k,n≤k→k<len→lst listed (lo+k)=true→(R (lo+k)).ps=[]∧∀v∈vs,(R (lo+k)).dst≠some v:=fun k hk hkl hx=>by
     obtain ⟨x,h⟩:=hlive k hkl hx
     rcases hforce k x h with ⟨h3,_⟩|h3
     ·omega
     exact h3
    have hst:∀k,k≤len→(cD R lo σ0 (lst listed) k).h=(cD R lo σ0 (fun _=>true) (min k n)).h∧∀v∈vs,(cD R lo σ0 (lst listed) k).fr v=(cD R lo σ0 (fun _=>true) (min k n)).fr v:=fun k=>by
     induction k with
     |zero=>intro _;simp [cD]
     |succ k ihk=>
      intro hk
      obtain ⟨i1,i2⟩:=ihk (by omega)
      by_cases hkn:k<n
      ·have e1:min (k+1) n=k+1:=by omega
       have e2:min k n=k:=by omega
       rw [e2] at i1 i2
       rw [e1]
       simp only [cD,if_true]
       cases hx:lst listed (lo+k) with
       |true=>
        rw [if_pos rfl]
        refine ⟨?_,fun v hv=>?_⟩
        ·show cU _ _=cU _ _
         rw [i1]
        exact aCa (i2 v hv)
       |false=>
        rw [if_neg (by simp)]
        obtain ⟨o1,o2⟩:=hout k hkn hx
        refine ⟨?_,fun v hv=>?_⟩
        ·show _=cU _ _
         rw [i1,o1]
         rfl
        rw [i2 v hv]
        exact (wJ (o2 v hv)).symm
      have e1:min (k+1) n=min k n:=by omega
      rw [e1]
      simp only [cD]
      cases hx:lst listed (lo+k) with
      |true=>
       rw [if_pos rfl]
       obtain ⟨o1,o2⟩:=hin k (by omega) (by omega) hx
       refine ⟨?_,fun v hv=>?_⟩
       ·show cU _ _=_
        rw [o1,←i1]
        rfl
       rw [←i2 v hv]
       exact wJ (o2 v hv)
      |false=>rw [if_neg (by simp)];exact ⟨i1,i2⟩
    obtain ⟨s1,s2⟩:=hst len (Nat.le_refl _)
    rw [show min len n=n by omega,k4] at s1 s2
    obtain ⟨s3,s4⟩:=jV (R:=R) (lo:=lo) (X:=lst listed) (σ:=σ0) len
    obtain ⟨t3,t4⟩:=jV (R:=R) (lo:=lo) (X:=fun _=>true) (σ:=σ0) n
    rw [k4] at t3 t4
    have hle:Le C (cD R lo σ0 (lst listed) len) { σ1 with fr:=fr }:=by
     have:=Le.regs (C:=C) (σ:=cD R lo σ0 (lst listed) len) (fr:=fr) (fun t=>by
      rcases hfr t with ⟨hv,e⟩|e
      ·exact .inl (by rw [e,s2 t hv])
      exact .inr (.inl e))
     have e:({ cD R lo σ0 (lst listed) len with fr:=fr }:Sg E)={ σ1 with fr:=fr }:=by
      show (⟨fr,(cD R lo σ0 (lst listed) len).h,(cD R lo σ0 (lst listed) len).A,(cD R lo σ0 (lst listed) len).df⟩:Sg E)=⟨fr,σ1.h,σ1.A,σ1.df⟩
      rw [s1,s3,s4,t3,t4]
     rwa [e] at this
    unfold wpOpIn
    rw [ho]
    exact h1 a w (hle a w H) _ fun _ _ _ hk _=>hk.elim
   have hql:∃x,ids[q]? = some (some x):=by
    rcases hor q hqlen with h|h
    ·have:=hB' (lo+q) hallt' (lo+n) (by omega) ⟨by omega,hdead q h hqn⟩
     rw [hjp] at this;cases this
    exact h
   obtain ⟨x,hx⟩:=hql
   have fr1:∀m,m<q→lst listed (lo+m)=false→(∀oj,ops[lo+q]? = some oj→∀t∈oj.looksAt ops,(R (lo+m)).dst≠some t)∧(∀p∈(R (lo+m)).ps,p.1∉(R (lo+q)).I):=fun m hm hxm=>by
    rcases hor m (by omega) with h|⟨y,h⟩
    ·obtain ⟨a1,a2⟩:=k2 m h
     rw [a1,a2]
     exact ⟨fun _ _ _ _=>by simp,fun p hp=>by simp at hp⟩
    rcases hfree m q y x hm h hx with hb|hf
    ·have:=hB' (lo+q) hallt' (lo+m) (by omega) hb
     rw [hxm] at this;cases this
    exact ⟨hf.r1,hf.o1⟩
   have fr2:∀k,q<k→k<len→lst listed (lo+k)=true→aFa ops R (lo+q) (lo+k):=fun k hk hkl hxk=>by
    obtain ⟨y,hy⟩:=hlive k hkl hxk
    rcases hfree q k x y hk hx hy with hb|hf
    ·have:=hB' (lo+k) (fun o' ho'=>hdc _ o' ho' (by omega) (by omega) hxk) (lo+q) (by omega) hb
     rw [hXq] at this;cases this
    exact hf
   obtain ⟨o',ho2,hdst,heff⟩:=k3 q x hx
   rw [ho'] at ho2;cases ho2
   have hmin:min len q=q:=by omega
   have hag:aB8 ops o (R (lo+q)).I (cD R lo σ0 (fun _=>true) q) (cD R lo σ0 (lst listed) len):=by
    refine ⟨by rw [(jV len).1,(jV q).1],by rw [(jV len).2,(jV q).2],fun t ht=>?_,fun id hid=>?_⟩
    ·have:=aAS (R:=R) (σ:=σ0) (t:=t) hXq (fun m hm hx=>(fr1 m hm hx).1 o ho' t ht) len (fun k hk hkl hx=>(fr2 k hk hkl hx).r2 o ho' t ht)
     rwa [hmin] at this
    have:=aCV (R:=R) (σ:=σ0) (id:=id) hXq (fun m hm hx p hp e=>(fr1 m hm hx).2 p hp (e ▸ hid)) len (fun k hk hkl hx p hp e=>(fr2 k hk hkl hx).o2 p hp (e ▸ hid))
    rwa [hmin] at this
   have hw:=heff _ hag a w H (wpAnyIn (MF Pg r) 0 Pg .any ops (cE C Q) c (listed.setIfInBounds (lo+q) true)) (cE C Q) fun a' w' H'=>?_
   ·unfold wpOpIn
    rw [ho']
    exact hw
   have hsz2:lo+q<listed.size:=by omega
   have hl':∀k,lst (listed.setIfInBounds (lo+q) true) k=if k=lo+q then true else lst listed k:=fun k=>aAU hsz2
   have hX':lst (listed.setIfInBounds (lo+q) true) (lo+q)=true:=by rw [hl'];simp
   have hsame:∀m,m≠q→lst (listed.setIfInBounds (lo+q) true) (lo+m)=lst listed (lo+m):=fun m hm=>by
    rw [hl',if_neg (by omega)]
   refine ih _ a' w' (by simpa using hsz) ?_ (fun k hk=>?_) ?_ (fun j oj hoj h1 h2 hx e he hbe=>?_) ?_
   ·have:=(aCW hXq hX' hsame len).2 hqlen
    omega
   ·rw [hl',if_neg (by omega)];exact hlow k hk
   ·rw [hl',if_neg (by omega)];exact hjp
   ·rw [hl']
    split
    ·rfl
    rw [hl'] at hx
    split at hx
    ·rename_i e1
     subst e1
     rw [ho'] at hoj;cases hoj
     exact hallt e he hbe
    exact hdc j oj hoj h1 h2 hx e he hbe
   rw [(vQ (ops:=ops) (R:=R) (σ:=σ0) hXq hX' hsame len fr2).2 hqlen,hdst]
   exact H'
 refine ⟨fun listed a w ⟨hsz,hl⟩ H=>?_⟩
 have hun:∀m,m≤len→cnt (lst listed) lo m=m∧cD R lo σ0 (lst listed) m=σ0:=fun m=>by
  induction m with
  |zero=>intro _;exact ⟨rfl,rfl⟩
  |succ m ih=>
   intro hm
   obtain ⟨i1,i2⟩:=ih (by omega)
   have hx:lst listed (lo+m)=false:=by rw [hl _ (by omega)];simp
   simp only [cnt,cD,hx,i1,i2,Bool.false_eq_true,if_false,and_self]
 have hsl:ops.size - lo=len:=by omega
 rw [hsl]
 exact main len listed a w hsz (hun len (Nat.le_refl _)).1 (fun k hk=>by rw [hl k (by omega)];simp [hk]) (by rw [hl _ (by omega)];simp)
  (fun j o ho h1 h2 hx=>by rw [hl j (by omega)] at hx;simp at hx;omega) (by rw [(hun len (Nat.le_refl _)).2];exact H)⟩
theorem aL9 {l:List (Nat×G)}:∀(vs:List Nat) (t:Nat),(t∈vs∧bA (vs.map fun v=>(v,bA l v)) t=bA l t)∨bA (vs.map fun v=>(v,bA l v)) t = .undef
 |[],t=>.inr rfl
 |v::vs,t=>by
  rw [List.map_cons,aT]
  split
  ·rename_i e;subst e;exact .inl ⟨List.mem_cons_self ..,rfl⟩
  rcases aL9 vs t with ⟨h1,h2⟩|h
  ·exact .inl ⟨List.mem_cons_of_mem _ h1,h2⟩
  exact .inr h
end
section
open Go.RowKit
inductive S where
 |bool|int (k:IntKind)|str
 |list (es:List S) (agg:Bool)
def aJr (sh:TypeId→Option (List S)) (P:Program):List Field→Nat→Option (List S)
 |[],_=>some []
 |f::fs,o=>(sh f.type).bind fun a=>if f.offset=o∧P.cellsOf f.type=a.length then (aJr sh P fs (o+a.length)).map (a++·) else none
def shp (P:Program):Nat→Bool→TypeId→Option (List S)
 |0,_,_=>none
 |n+1,deep,t=>match P.underlying t with
  |some .bool=>some [.bool]
  |some (.int k)=>some [.int k]
  |some .string=>some [.str]
  |some (.slice e)=>if deep then none else (shp P n true e).bind fun es=>if P.cellsOf e=es.length then (match P.underlying e with
   |some (.struct _)=>some [.list es true]
   |some (.array _ _)=>some [.list es true]
   |_=>if es.length=1 then some [.list es false] else none) else none
  |some (.struct fs)=>aJr (shp P n deep) P fs.toList 0
  |some (.array m e)=>(shp P n deep e).bind fun es=>if P.cellsOf e=es.length then some (List.replicate m es).flatten else none
  |_=>none
mutual
def aBf:S→P→Prop
 |.bool,x=>∃b,x = .bool b
 |.int k,x=>∃n,x = .int k n∧(Lit.int k n).wf=true
 |.str,x=>∃s,x = .str s∧s.length≤maxLen
 |.list es agg,x=>∃xs,x = .list xs∧xs.length≤maxLen∧∀y∈xs,∃cs,dX es cs∧(agg=true→y = .agg cs)∧(agg=false→cs=[y])
def dX:List S→List P→Prop
 |[],xs=>xs=[]
 |e::es,xs=>∃y ys,xs=y::ys∧aBf e y∧dX es ys
end
theorem aBf.one {s:S} {x:P} (h:aBf s x):x.one=true:=by
 cases s<;>simp only [aBf] at h
 ·obtain ⟨_,rfl⟩:=h;rfl
 ·obtain ⟨_,rfl,_⟩:=h;rfl
 ·obtain ⟨_,rfl,_⟩:=h;rfl
 obtain ⟨_,rfl,_⟩:=h;rfl
theorem dX.length:∀ {ss:List S} {xs:List P},dX ss xs→xs.length=ss.length
 |[],xs,h=>by simp only [dX] at h;subst h;rfl
 |s::ss,xs,h=>by
  simp only [dX] at h
  obtain ⟨y,ys,rfl,_,k⟩:=h
  simp [dX.length k]
theorem dX.one:∀ {ss:List S} {xs:List P},dX ss xs→∀x∈xs,x.one=true
 |[],xs,h,x,hx=>by simp only [dX] at h;subst h;simp at hx
 |s::ss,xs,h,x,hx=>by
  simp only [dX] at h
  obtain ⟨y,ys,rfl,k1,k2⟩:=h
  rcases List.mem_cons.1 hx with rfl|hx
  ·exact k1.one
  exact dX.one k2 x hx
theorem dX.append:∀ {ss ts:List S} {xs ys:List P},dX ss xs→dX ts ys→dX (ss++ts) (xs++ys)
 |[],ts,xs,ys,h,k=>by simp only [dX] at h;subst h;simpa using k
 |s::ss,ts,xs,ys,h,k=>by
  simp only [dX] at h
  obtain ⟨y,zs,rfl,k1,k2⟩:=h
  simp only [List.cons_append,dX]
  exact ⟨y,_,rfl,k1,dX.append k2 k⟩
theorem aU.append' {π:PM} {xs ys:List P} {us vs:List Value} (h:aU π xs us) (k:aU π ys vs):aU π (xs++ys) (us++vs):=by
 induction xs generalizing us with
 |nil=>simp only [aU] at h;subst h;simpa using k
 |cons x xs ih=>
  simp only [aU] at h
  obtain ⟨v,ws,rfl,h1,h2⟩:=h
  simp only [List.cons_append,aU]
  exact ⟨v,_,rfl,h1,ih h2⟩
def aCs (cs:List Value):Prop:=∀a len cap,Value.slice (some a) len cap∈cs→a.spot=none
variable {H:Type} {enc:TypeId×Value→H} {Pg:Program} {w:World} {base:Nat} {spare:Nat→Bool} {held:Bool}
theorem aJs {α β:Type} {f:α→Option β}:∀ {l:List α} {r:List β},l.mapM f=some r→r.length=l.length∧∀(i:Nat) x,l[i]? = some x→f x=r[i]?
 |l,r,h=>⟨mapM_some_length h,fun i x hx=>mapM_some_get h i x hx⟩
theorem aEf (b o j:Nat):(⟨b,o,none⟩:Addr).add j=⟨b,o+j,none⟩:=by simp [Addr.add]
theorem aNd {a:Addr} {n:Nat} {cs:List Value} {ps:List P} (hs:a.spot=none) (h:w.cells? base a n=some cs) (hr:aU (eR w) ps cs) (h1:∀x∈ps,x.one=true):dJ (eR w) a.block a.off ps:=by
 obtain ⟨_,hl,hc⟩:=World.cells?_some h
 refine dJ.mk fun j c hj=>?_
 obtain ⟨u,hu,hk⟩:=hr.get j c hj
 refine ⟨u,?_,hk,h1 c (List.mem_of_getElem? hj)⟩
 have hjn:j<n:=by
  have:=(List.getElem?_eq_some_iff.1 hu).1
  omega
 have:=hc j hjn
 rw [hu] at this
 rw [←this]
 obtain ⟨b,o,s⟩:=a
 simp only at hs;subst hs
 simp only [eR,aEf]
theorem bE.of_rows {π:PM} {b c:Nat}:∀ {xs:List P} {o:Nat},(∀(i:Nat) x,xs[i]? = some x→x.cells.length=c∧dJ π b (o+i*c) x.cells)→bE π b o xs:=by
 intro xs
 induction xs with
 |nil=>intro o _;simp only [bE]
 |cons x xs ih=>
  intro o h
  have h0:=h 0 x (by simp)
  rw [bE.row,List.flatMap_cons,dJ.append,←bE.row]
  refine ⟨by simpa using h0.2,?_⟩
  rw [h0.1]
  refine ih fun i y hy=>?_
  have:=h (i+1) y (by simpa using hy)
  refine ⟨this.1,?_⟩
  have e:o+c+i*c=o+(i+1)*c:=by rw [Nat.add_mul];omega
  rw [e];exact this.2
theorem aEg {α:Type} {n:Nat} {R:Nat→α→Prop} (h:∀i,i<n→∃x,R i x):∃xs:List α,xs.length=n∧∀(i:Nat) x,xs[i]? = some x→R i x:=by
 induction n with
 |zero=>exact ⟨[],rfl,fun i x hx=>by simp at hx⟩
 |succ n ih=>
  obtain ⟨xs,hl,hx⟩:=ih fun i hi=>h i (by omega)
  obtain ⟨x,hr⟩:=h n (by omega)
  refine ⟨xs++[x],by simp [hl],fun i y hy=>?_⟩
  by_cases hi:i<n
  ·rw [List.getElem?_append_left (by omega)] at hy;exact hx i y hy
  have hi':i=n:=by
   have:=(List.getElem?_eq_some_iff.1 hy).1
   simp [hl] at this;omega
  subst hi'
  rw [List.getElem?_append_right (by omega),hl] at hy
  simp at hy;subst hy;exact hr
theorem aCs.sub {cs ds:List Value} (h:aCs cs) (hs:∀v∈ds,v∈cs):aCs ds:=fun a l c k=>h a l c (hs _ k)
theorem aBg {sh:TypeId→Option (List S)} {R:TypeId→List Value→Prop} {cs:List Value}
  (ih:∀t ss ds,sh t=some ss→Pg.cellsOf t=ss.length→R t ds→(∀v∈ds,v∈cs)→∃ps,aU (eR w) ps ds∧dX ss ps) :
  ∀(fs:List Field) (o:Nat) (ss:List S),aJr sh Pg fs o=some ss→o+ss.length=cs.length→(∀f∈fs,R f.type ((cs.drop f.offset).take (Pg.cellsOf f.type))) →
   ∃ps,aU (eR w) ps (cs.drop o)∧dX ss ps
 |[],o,ss,h,hl,_=>by
  simp only [aJr,Option.some.injEq] at h;subst h
  simp at hl;subst hl
  exact ⟨[],by simp [aU],by simp [dX]⟩
 |f::fs,o,ss,h,hl,hr=>by
  simp only [aJr,Option.bind_eq_some_iff] at h
  obtain ⟨a,ha,h⟩:=h
  split at h
  ·rename_i hc
   obtain ⟨rfl,hc⟩:=hc
   simp only [Option.map_eq_some_iff] at h
   obtain ⟨b,hb,rfl⟩:=h
   obtain ⟨p1,q1,g1⟩:=ih f.type a _ ha hc (hr f (by simp)) (fun v hv=>List.mem_of_mem_drop (List.mem_of_mem_take hv))
   obtain ⟨p2,q2,g2⟩:=aBg ih fs _ b hb (by simp at hl;omega) (fun g hg=>hr g (by simp [hg]))
   refine ⟨p1++p2,?_,g1.append g2⟩
   have:=q1.append' q2
   rw [hc] at this
   rw [←List.drop_drop] at this
   rwa [List.take_append_drop] at this
  cases h
theorem aFt {es:List S} {cs:List Value} {c:Nat} (hc:c=es.length) :
  ∀(m o:Nat),(∀i,o≤i→i<o+m→∃ps,aU (eR w) ps ((cs.drop (i*c)).take c)∧dX es ps) →
   ∃ps,aU (eR w) ps ((cs.drop (o*c)).take (m*c))∧dX (List.replicate m es).flatten ps:=by
 intro m
 induction m with
 |zero=>intro o _;exact ⟨[],by simp [aU],by simp [dX]⟩
 |succ m ih=>
  intro o h
  obtain ⟨p1,q1,g1⟩:=h o (by omega) (by omega)
  obtain ⟨p2,q2,g2⟩:=ih (o+1) fun i h1 h2=>h i (by omega) (by omega)
  refine ⟨p1++p2,?_,?_⟩
  ·have:=q1.append' q2
   have e:(cs.drop (o*c)).take ((m+1)*c)=(cs.drop (o*c)).take c++(cs.drop ((o+1)*c)).take (m*c):=by
    rw [Nat.add_mul,Nat.one_mul,Nat.add_comm (m*c),List.take_add,List.drop_drop,Nat.add_mul,Nat.one_mul]
   rw [e];exact this
  rw [List.replicate_succ,List.flatten_cons];exact g1.append g2
theorem aJt {k:Nat} {t e:TypeId} {m:Nat} {cs:List Value} {x:DataW H×List MemPlace} (ht:Pg.underlying t=some (.array k e)) (h:DataW.trod enc Pg w base spare held m t cs=some x) :
  ∃n,cs.length=Pg.cellsOf t∧∀i,i<k→∃y,DataW.trod enc Pg w base spare held n e ((cs.drop (i*Pg.cellsOf e)).take (Pg.cellsOf e))=some y:=by
 cases m with
 |zero=>simp [DataW.trod] at h
 |succ n=>
  unfold DataW.trod at h
  rw [ht] at h
  split at h<;>simp_all
  obtain ⟨hl,xs,hxs,_⟩:=h
  refine ⟨n,fun i hi=>?_⟩
  obtain ⟨h1,h2⟩:=aJs hxs
  have:=h2 i i (by simp [hi])
  simp at h1
  exact ⟨_,_,by rw [this];exact List.getElem?_eq_getElem (by omega)⟩
theorem aCt:∀(n:Nat) (deep:Bool) (t:TypeId) (ss:List S),shp Pg n deep t=some ss →
  ∀(m:Nat) (cs:List Value) (x:DataW H×List MemPlace),DataW.trod enc Pg w base spare held m t cs=some x→(deep=false→aCs cs)→Pg.cellsOf t=ss.length →
   ∃ps,aU (eR w) ps cs∧dX ss ps:=by
 intro n
 induction n with
 |zero=>intro _ _ _ h;simp [shp] at h
 |succ n ih=>
  intro deep t ss h m cs x hx hsp hct
  unfold shp at h
  split at h
  ·rename_i ht
   simp only [Option.some.injEq] at h;subst h
   obtain ⟨b,rfl,_⟩:=DataW.trod_bool ht hx
   exact ⟨[.bool b],by simp [aU,aS],by simp [dX,aBf]⟩
  ·rename_i k ht
   simp only [Option.some.injEq] at h;subst h
   obtain ⟨b,rfl,_,hw⟩:=DataW.trod_int ht hx
   exact ⟨[.int k b],by simp [aU,aS],by simp [dX,aBf,hw]⟩
  ·rename_i ht
   simp only [Option.some.injEq] at h;subst h
   obtain ⟨s,rfl,_,hw⟩:=DataW.trod_string ht hx
   exact ⟨[.str s.data.toList],by simp [aU,aS],by simp [dX,aBf];exact hw⟩
  ·rename_i e ht
   split at h
   ·cases h
   rename_i hdeep
   simp only [Option.bind_eq_some_iff] at h
   obtain ⟨es,hes,h⟩:=h
   split at h
   ·rename_i hce
    have agg:∃g:Bool,ss=[.list es g]∧(g=false→es.length=1):=by
     split at h
     ·simp only [Option.some.injEq] at h;subst h;exact ⟨true,rfl,fun k=>by cases k⟩
     ·simp only [Option.some.injEq] at h;subst h;exact ⟨true,rfl,fun k=>by cases k⟩
     split at h
     ·rename_i h1
      simp only [Option.some.injEq] at h;subst h;exact ⟨false,rfl,fun _=>h1⟩
     cases h
    obtain ⟨g,rfl,hg⟩:=agg
    clear h
    rcases DataW.trod_slice ht hx with ⟨rfl,_⟩|⟨a,len,cap,elems,rest,n',_,rfl,_,hb,hl,hm,hlen,hel,_,_⟩
    ·refine ⟨[.list []],?_,by simp [dX,aBf]⟩
     simp only [aU,aS]
     exact ⟨_,_,rfl,⟨none,0,0,rfl,rfl,Nat.le_refl _,.inl ⟨rfl,rfl⟩⟩,rfl⟩
    have hspot:a.spot=none:=hsp (by simpa using hdeep) a len cap (by simp)
    have each:∀i,i<len→∃y:P,∃cs,dJ (eR w) a.block (a.off+i*es.length) cs∧cs.length=es.length∧y.cells=cs∧dX es cs∧(g=true→y = .agg cs)∧(g=false→cs=[y]):=by
     intro i hi
     have hh:=hel i hi
     rw [List.getElem?_eq_getElem (by omega)] at hh
     simp only [Option.bind_eq_some_iff] at hh
     obtain ⟨ds,hds,hy⟩:=hh
     obtain ⟨ps,q1,q2⟩:=ih true e es hes _ _ _ hy (fun k=>by cases k) hce
     have hrow':dJ (eR w) a.block (a.off+i*es.length) ps:=by
      obtain ⟨b,o,s⟩:=a
      simp only at hspot;subst hspot
      rw [aEf] at hds
      have:=aNd rfl hds q1 q2.one
      rwa [hce] at this
     cases g with
     |true=>exact ⟨.agg ps,ps,hrow',q2.length,rfl,q2,fun _=>rfl,(fun k=>by cases k)⟩
     |false=>
      have:=hg rfl
      have hl1:=q2.length
      rw [this] at hl1
      obtain ⟨y,rfl⟩:=List.length_eq_one_iff.1 hl1
      refine ⟨y,[y],hrow',by simp [this],?_,q2,(fun k=>by cases k),fun _=>rfl⟩
      have:=q2.one y (by simp)
      cases y<;>first|rfl|simp [P.one] at this
    obtain ⟨xs,hxl,hxs⟩:=aEg each
    refine ⟨[.list xs],?_,?_⟩
    ·obtain ⟨b,o,s⟩:=a
     simp only at hspot;subst hspot
     simp only [aU,aS]
     refine ⟨_,_,rfl,⟨_,len,cap,rfl,by omega,hl,.inr ⟨b,o,rfl,?_⟩⟩,rfl⟩
     refine bE.of_rows (c:=es.length) fun i x hi=>?_
     obtain ⟨cs,k1,k2,k3,_⟩:=hxs i x hi
     rw [k3];exact ⟨k2,k1⟩
    simp only [dX,aBf]
    refine ⟨_,_,rfl,⟨xs,rfl,by omega,fun y hy=>?_⟩,rfl⟩
    obtain ⟨i,hi⟩:=List.getElem?_of_mem hy
    obtain ⟨cs,_,_,_,k4,k5,k6⟩:=hxs i y hi
    exact ⟨cs,k4,k5,k6⟩
   cases h
  ·rename_i fs ht
   obtain ⟨xs,n',_,_,hl,hxl,hf⟩:=DataW.trod_struct ht hx
   have:=aBg (w:=w) (Pg:=Pg) (sh:=shp Pg n deep) (R:=fun t ds=>∃y,DataW.trod enc Pg w base spare held n' t ds=some y) (cs:=cs) ?_ fs.toList 0 ss h (by omega) ?_
   ·simpa using this
   ·rintro t' ss' ds' hs' hc' ⟨y,hy⟩ hsub
    exact ih deep t' ss' hs' _ _ _ hy (fun k=>(hsp k).sub hsub) hc'
   intro f hf'
   obtain ⟨i,hi⟩:=List.getElem?_of_mem hf'
   have hi':fs[i]? = some f:=by simpa using hi
   have:=hf i f hi'
   have hlt:i<xs.length:=by
    rw [hxl]
    exact (Array.getElem?_eq_some_iff.1 hi').1
   exact ⟨_,by rw [this];exact List.getElem?_eq_getElem hlt⟩
  ·rename_i k e ht
   simp only [Option.bind_eq_some_iff] at h
   obtain ⟨es,hes,h⟩:=h
   split at h
   ·rename_i hce
    simp only [Option.some.injEq] at h;subst h
    obtain ⟨n',hl,hf⟩:=aJt ht hx
    have hlen:cs.length=k*es.length:=by
     rw [hl,hct];simp
    have:=aFt (w:=w) (cs:=cs) (es:=es) (c:=Pg.cellsOf e) hce k 0 ?_
    ·simp only [Nat.zero_mul,List.drop_zero] at this
     rwa [List.take_of_length_le (by rw [hce];omega)] at this
    intro i _ hi
    obtain ⟨y,hy⟩:=hf i (by omega)
    exact ih deep e es hes _ _ _ hy (fun q=>(hsp q).sub fun v hv=>List.mem_of_mem_drop (List.mem_of_mem_take hv)) hce
   cases h
  cases h
end
section
open Go.RowKit Go.ChangeShapes Go.WideShapes Go.ChangeAt
def aNe (P:Program) (n:Nat) (t:TypeId):Option (Bool×List S):=
 match P.underlying t with
 |some (.struct _)=>(shp P n false t).bind fun ss=>if P.cellsOf t=ss.length then some (true,ss) else none
 |some (.array _ _)=>(shp P n false t).bind fun ss=>if P.cellsOf t=ss.length then some (true,ss) else none
 |_=>(shp P n false t).bind fun ss=>if P.cellsOf t=ss.length∧ss.length=1 then some (false,ss) else none
def aEh (P:Program) (n:Nat):List TypeId→Option (List (Bool×List S))
 |[]=>some []
 |t::ts=>match aNe P n t,aEh P n ts with
  |some s,some ss=>some (s::ss)
  |_,_=>none
def aEi:Bool×List S→P→Prop
 |(true,ss),x=>∃cs,x = .agg cs∧dX ss cs
 |(false,ss),x=>dX ss [x]
def aBh:List (Bool×List S)→List P→Prop
 |[],xs=>xs=[]
 |s::ss,xs=>∃y ys,xs=y::ys∧aEi s y∧aBh ss ys
variable {H:Type} {enc:TypeId×Value→H} {Pg:Program} {W:World} {base:Nat} {spare:Nat→Bool} {held:Bool}
theorem aCu {u:TypeId} {a:Addr} {len cap:Nat} {r:Reach} (h:Cell.okWide Pg W r base u (.slice (some a) len cap)):a.spot=none:=by
 unfold Cell.okWide at h
 cases hu:Pg.underlying u with
 |none=>simp [hu,Cell.ok] at h
 |some d=>
  rw [hu] at h
  cases d<;>simp [Cell.ok,hu] at h
  exact h.2.2.2.1
theorem aHy {t:TypeId} {cs:Array Value} {r:Reach} (h:Row.okWide Pg W r base t cs):aCs cs.toList:=fun a len cap hm=>by
 obtain ⟨ts,_,_,h⟩:=h
 obtain ⟨i,hi⟩:=List.getElem?_of_mem hm
 obtain ⟨u,_,hk⟩:=h i _ (by simpa using hi)
 exact aCu hk
theorem aNf {n:Nat} {t:TypeId} {v:Value} {d:DataW H} {p:List MemPlace} {s:Bool×List S} {r:Reach} {b0:Nat} (h:DataW.Trod enc Pg W base spare held t v d p) (hv:Value.okWide Pg W r b0 t v) (hs:aNe Pg n t=some s) :
  ∃x,aS (eR W) x v∧aEi s x:=by
 obtain ⟨fuel,h⟩:=h
 have aggs:(∃cs,v = .agg cs∧cs.size=Pg.cellsOf t∧Row.okWide Pg W r b0 t cs)→(((shp Pg n false t).bind fun ss=>if Pg.cellsOf t=ss.length then some (true,ss) else none)=some s)→∃x,aS (eR W) x v∧aEi s x:=by
  rintro ⟨cs,rfl,hl,ho⟩ hs
  simp only [Option.bind_eq_some_iff] at hs
  obtain ⟨ss,hss,hs⟩:=hs
  split at hs
  ·rename_i hc
   simp only [Option.some.injEq] at hs;subst hs
   obtain ⟨ps,q1,q2⟩:=aCt n false t ss hss _ _ _ h (fun _=>aHy ho) hc
   refine ⟨.agg ps,?_,ps,rfl,q2⟩
   simp only [aS]
   exact ⟨_,rfl,q1⟩
  cases hs
 have ones:v.cells = #[v]→Cell.okWide Pg W r b0 t v→(((shp Pg n false t).bind fun ss=>if Pg.cellsOf t=ss.length∧ss.length=1 then some (false,ss) else none)=some s)→∃x,aS (eR W) x v∧aEi s x:=by
  intro hv1 ho hs
  simp only [Option.bind_eq_some_iff] at hs
  obtain ⟨ss,hss,hs⟩:=hs
  split at hs
  ·rename_i hc
   simp only [Option.some.injEq] at hs;subst hs
   obtain ⟨ps,q1,q2⟩:=aCt n false t ss hss _ _ _ h (fun _=>by
    rw [hv1]
    intro a len cap hm
    simp at hm;subst hm
    exact aCu ho) hc.1
   have hl:=q2.length
   rw [hc.2] at hl
   obtain ⟨x,rfl⟩:=List.length_eq_one_iff.1 hl
   rw [hv1] at q1
   simp only [aU] at q1
   obtain ⟨v',vs,e,q,e'⟩:=q1
   subst e'
   simp at e;subst e
   exact ⟨x,q,q2⟩
  cases hs
 unfold aNe at hs
 unfold Value.okWide at hv
 split at hs
 ·rename_i hu;rw [hu] at hv;exact aggs hv hs
 ·rename_i hu;rw [hu] at hv;exact aggs hv hs
 rename_i h1 h2
 have ho:Cell.okWide Pg W r b0 t v:=by
  revert hv
  cases hu:Pg.underlying t with
  |none=>exact id
  |some d=>cases d<;>first|exact id|exact absurd hu (h1 _)|exact absurd hu (h2 _ _)
 refine ones ?_ ho hs
 revert ho
 unfold Cell.okWide
 cases v with
 |agg cs=>cases hu:Pg.underlying t with
  |none=>simp [Cell.ok,hu]
  |some d=>cases d<;>simp [Cell.ok,hu]
 |_=>intro _;rfl
theorem aGv {n:Nat}:∀ {ts:List TypeId} {vs:List Value} {ds:List (DataW H)} {p:List MemPlace} {ss:List (Bool×List S)} {r:Reach} {b0:Nat},DataW.TrodAll enc Pg W base spare held ts vs ds p →
  (∀(j:Nat) t v,ts[j]? = some t→vs[j]? = some v→Value.okWide Pg W r b0 t v)→aEh Pg n ts=some ss→∃ps,aU (eR W) ps vs∧aBh ss ps
 |[],vs,ds,p,ss,r,b0,h,_,hs=>by
  obtain ⟨rfl,_⟩:=trodAll_nil h
  simp only [aEh,Option.some.injEq] at hs;subst hs
  exact ⟨[],by simp [aU],by simp [aBh]⟩
 |t::ts,vs,ds,p,ss,r,b0,h,hv,hs=>by
  obtain ⟨v,vs',d,ds',p',q,rfl,rfl,rfl,h1,h2⟩:=trodAll_cons h
  unfold aEh at hs
  split at hs
  ·rename_i s ss' e1 e2
   simp only [Option.some.injEq] at hs;subst hs
   obtain ⟨x,k1,k2⟩:=aNf h1 (hv 0 t v rfl rfl) e1
   obtain ⟨xs,k3,k4⟩:=aGv h2 (fun j t v a b=>hv (j+1) t v (by simpa using a) (by simpa using b)) e2
   refine ⟨x::xs,?_,?_⟩
   ·simp only [aU];exact ⟨_,_,rfl,k1,k3⟩
   simp only [aBh];exact ⟨_,_,rfl,k2,k4⟩
  cases hs
theorem vB (hl:laidOutB Pg=true) {W W':World} (hb:Below W.heap.size W W'):∀ {ts:List TypeId} {vs:List Value} {ds:List (DataW H)} {p:List MemPlace},
  (ts.all fun t=>Pg.readableRec t&&decide (t<Pg.types.size))=true→DataW.TrodAll enc Pg W 0 (fun _=>true) true ts vs ds p →
  DataW.TrodAll enc Pg W' 0 (fun b=>decide (b<W.heap.size)) true ts vs ds p
 |[],vs,ds,p,_,h=>by
  obtain ⟨rfl,rfl,rfl⟩:=trodAll_nil h
  exact trodAll_mk0
 |t::ts,vs,ds,p,ht,h=>by
  obtain ⟨v,vs',d,ds',p',q,rfl,rfl,rfl,h1,h2⟩:=trodAll_cons h
  simp only [List.all_cons,Bool.and_eq_true,decide_eq_true_eq] at ht
  have lt:∀x∈p',x.block<W.heap.size:=by obtain ⟨m,hm⟩:=h1;exact DataW.trod_lt m _ _ _ hm
  exact trodAll_cons_mk (Below.trod hl ht.1.1 ht.1.2 h1 hb lt) (vB hl hb ht.2 h2)
theorem aJu {sp:ChangeSpec} {fn:Func} {f:FuncId} {n:Nat} {ss:List (Bool×List S)} {b:TypeId}
  (hl:laidOutB Pg=true) (hrd:(fn.params.toList.all fun t=>Pg.readableRec t&&decide (t<Pg.types.size))=true)
  (hss:aEh Pg n fn.params.toList=some ss) (hres:fn.resultTypes = #[b]) (hb:Pg.underlying b=some .bool) (hvars:sp.vars=[])
  (hsp:∀ds:List (DataW H),ds.length=fn.params.size→sp.fn H ds={ results:=[.lit (.bool true)],args:=ds })
  [Kn Pg] (hlaw:∀ps,aBh ss ps→bF Pg f ps (.ok (.bool true)))
  {args:Array Value} {ds gs:List (DataW H)} {before:List MemPlace} {base:Nat} (hg:Kn.good Pg (eR W))
  (hval:∀(j:Nat) t v,fn.params[j]? = some t→args[j]? = some v→Value.okWide Pg W .any base t v)
  (hW:DataW.Whole enc Pg fn.params.toList sp.vars false W args.toList ds gs before) :
  Calls Pg f args W fun e W'=>∃v,e = .returned v∧sp.post enc Pg fn false true false false W args v W':=by
 have hW':=hW
 obtain ⟨p,q,hA,hV,rfl,hfz,hnd⟩:=hW
 rw [hvars] at hV
 obtain ⟨rfl,rfl⟩:=trodVars_none hV
 have hval':∀(j:Nat) t v,fn.params.toList[j]? = some t→args.toList[j]? = some v→Value.okWide Pg W .any base t v:=fun j t v h1 h2=>
  hval j t v (by simpa using h1) (by simpa using h2)
 obtain ⟨ps,k1,k2⟩:=aGv hA hval' hss
 have hds:ds.length=fn.params.size:=by
  have:=(trodAll_length hA).2
  simpa using this
 have:=aJn (w:=W) (hlaw ps k2) hg k1
 refine (Calls.mono this) fun e W' ⟨u,π',he,hu,hbel⟩=>?_
 simp only [aS] at hu;subst hu
 refine ⟨_,he,ds,[],_,[],p,[],hW',?_,?_,?_,hbel.frame _,fun h=>by cases h⟩
 ·rw [List.append_nil,hsp ds hds,hres]
  exact trodAll_mk1 (shut_bool hb _)
 ·rw [List.append_nil,hsp ds hds]
  exact vB hl hbel hrd hA
 rw [List.append_nil,hsp ds hds,hvars]
 rfl
end
end Go.Gh
