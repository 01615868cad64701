/- A way of reading machine states as plain values, with its rules; no program in sight. Made small by a program of ours. -/
import Derived.Test.YtecmhhpccmaeiaaGreatDoorA1
import Derived.OrdersIn
import Derived.TacticsIn
import Derived.Sort.LoopGhostIn
import Derived.RangeFuncOwn
import Derived.RangeFuncNested
set_option linter.unusedVariables false
set_option linter.unusedSimpArgs false
set_option linter.unusedSectionVars false
namespace Go.Gh
section
open Go.RowKit
variable {Pg:Program} [Kn Pg] {E:Env Pg} {π:PM} {ρ:RM} {h:Nat→Ob} {a:E.α} {S:Nat→Prop} {w:World}
def Yld (E:Env Pg) (π:PM) (ρ:RM) (h:Nat→Ob) (a:E.α) (S:Nat→Prop) (w:World) (d:Nat) (out:Out) (s:Sem Next):Prop:=
 ∃nx w' v,s.run Pg w = .ok nx w'∧(nx = .value v∨(nx = .skip∧v=undef))∧kL E π ρ h a S w d out v w'
theorem Yld.of_val {d:Nat} {out:Out} {s:Sem Value} (hx:∃r w',s.run Pg w = .ok r w'∧kL E π ρ h a S w d out r w'):Yld E π ρ h a S w d out (do pure (.value (←s))):=by
 obtain ⟨r,w',hr,hp⟩:=hx
 exact ⟨.value r,w',r,by simp only [Sem.run_bind,hr,Result.andThen_ok,Sem.run_pure],.inl rfl,hp⟩
theorem Yld.of_unit {d:Nat} {out:Out} {s:Sem Unit} (hx:∃w',s.run Pg w = .ok () w'∧kL E π ρ h a S w d out undef w'):Yld E π ρ h a S w d out (do s;pure .skip):=by
 obtain ⟨w',hr,hp⟩:=hx
 exact ⟨.skip,w',undef,by simp only [Sem.run_bind,hr,Result.andThen_ok,Sem.run_pure],.inr ⟨rfl,rfl⟩,hp⟩
theorem Yld.of_pure (R:Rel E π ρ h a S w) {d:Nat} {out:Out} {s:Sem Value} (hx:out.put=none∧∃r,s.run Pg w = .ok r w∧aK π ρ E.yv out.val r):Yld E π ρ h a S w d out (do pure (.value (←s))):=by
 obtain ⟨hp,r,hr,hv⟩:=hx
 obtain ⟨g,p⟩:=out
 cases hp
 exact Yld.of_val ⟨r,w,hr,kL.value R hv⟩
theorem Yld.const (R:Rel E π ρ h a S w) {d:Nat} {out:Out} {v:Value} (hp:out.put=none) (hv:aK π ρ E.yv out.val v):Yld E π ρ h a S w d out (pure (.value v)):=by
 obtain ⟨g,p⟩:=out
 cases hp
 exact ⟨.value v,w,v,Sem.run_pure ..,.inl rfl,kL.value R hv⟩
theorem aGl (d:Nat) (v:Value):(ofV v).men d=false:=by
 unfold ofV
 split<;>first|rfl|skip
 split<;>first|rfl|skip
 split<;>rfl
theorem nL {t:TypeId} {i:TI} (ht:ti Pg t=some i) (d:Nat):G.mens d i.zero=false:=by
 obtain ⟨_,z,_,_,_,_,_,hz,_⟩:=dC ht
 rw [hz]
 refine tC.2 fun g hg=>?_
 obtain ⟨v,_,rfl⟩:=List.mem_map.1 hg
 exact aGl d v
theorem aHb {t:TypeId} {name:String} (hk:aIE Pg t name=true) (n:Nat) (v:Value) (w:World):(nilAhead (n+1) t v name).run Pg w = .ok (some false) w:=by
 unfold aIE at hk
 split at hk
 ·rename_i i D hi hD
  split at hk
  ·rename_i m hm
   rw [Bool.and_eq_true] at hk
   obtain ⟨hp,hk⟩:=hk
   have hpath:m.path.toList=[]:=by
    have:m.path.size=0:=by simpa [Array.isEmpty] using hp
    exact List.eq_nil_of_length_eq_zero (by simpa using this)
   split at hk
   ·rename_i f p hf
    simp only [nilAhead,Sem.run_bind,run_typeInfo w hi,Result.andThen_ok,hm,hpath,followBlind,Sem.run_pure,hf]
    cases p
    ·simp only [Sem.run_bind,run_underlying hD,Result.andThen_ok]
     cases D<;>simp [xP] at hk<;>simp
    simp
   cases hk
  cases hk
 cases hk
theorem aCS (R:Rel E π ρ h a S w) {d:Nat} {g:G} {c:Prop} {out:Out} (hg:fO Pg h g=some (c,out)) (hc:c) {x:Operand} {evv:Operand→Value} {dst ty pos after guard} (hv:aK π ρ E.yv g (evv x)) :
  Yld E π ρ h a S w d out (execOp evv ⟨dst,.nilCheck x,ty,pos,after,guard⟩):=by
 simp only [execOp]
 unfold fO at hg
 split at hg<;>simp only [yes,Option.some.injEq,Prod.mk.injEq,reduceCtorEq] at hg
 all_goals
  obtain ⟨hc',rfl⟩:=hg
  have hv0:=hv
  simp only [aK,aS] at hv
 ·rename_i n t u b
  obtain ⟨as,bs,e,hr,_⟩:=hv
  simp only [aU,aS] at hr
  obtain ⟨_,_,rfl,⟨x,rfl,_⟩,rfl⟩:=hr
  subst hc'
  have hk:=aHb (Pg:=Pg) hc
  rw [e]
  refine ⟨.value _,w,_,?_,.inl rfl,kL.value R (e ▸ hv0)⟩
  simp [run_program,Made.depth,hk]
 ·rw [hv];exact .const R rfl (hv ▸ hv0)
 ·subst hc'
  obtain ⟨b,n,c,_,e⟩:=hv.2 ((R.isGood hc).2 _ _ _ rfl)
  rw [e];exact .const R rfl (e ▸ hv0)
 ·obtain ⟨b,o,e,_⟩:=hv
  rw [e];exact .const R rfl (e ▸ hv0)
 ·obtain ⟨as,bs,e,_⟩:=hv
  rw [e];exact .const R rfl (e ▸ hv0)
 ·obtain ⟨as,bs,e,_⟩:=hv
  rw [e];exact .const R rfl (e ▸ hv0)
 ·obtain ⟨u,e,_⟩:=hv
  rw [e];exact .const R rfl (e ▸ hv0)
 obtain ⟨u,e,_⟩:=hv
 rw [e];exact .const R rfl (e ▸ hv0)
theorem aR.map_ev {y:Value} {ev:Operand→G} {evv:Operand→Value} (hev:∀x,aK π ρ y (ev x) (evv x)):∀(l:List Operand),aR π ρ y (l.map ev) (l.map evv)
 |[]=>by simp only [List.map_nil,aR]
 |x::l=>by simp only [List.map_cons,aR];exact ⟨_,_,rfl,hev x,aR.map_ev hev l⟩
theorem aIK {y:Value} {b:Bool} {g1 g2:G} {v1 v2:Value} (h1:aK π ρ y g1 v1) (h2:aK π ρ y g2 v2):aK π ρ y (uQ b g1 g2) (if b then v1 else v2):=by
 cases b
 ·exact h2
 exact h1
section
variable (R:Rel E π ρ h a S w) {ev:Operand→G} {evv:Operand→Value} (hev:∀x,aK π ρ E.yv (ev x) (evv x)) {d:Nat} (hdn:h d = .none) (hdm:∀j,(h j).men d=false) (hmen:∀x,(ev x).men d=false)
include R hev hdn hdm hmen
omit hdn hdm hmen in
theorem aIL {mu:Bool} {cl:Call} {dst ty pos after guard} {c:Prop} {out:Out} (hb:cl.callee = .builtin .len) (hg:cZ Pg mu d ev h (.call cl)=some (c,out)) (hc:c):Yld E π ρ h a S w d out (execOp evv ⟨dst,.call cl,ty,pos,after,guard⟩):=by
 obtain ⟨callee,args,argTypes⟩:=cl
 subst hb
 simp only [cZ] at hg
 split at hg
 ·rename_i x t hx ht'
  have hx':args = #[x]:=Array.ext' hx
  have ht'':argTypes = #[t]:=Array.ext' ht'
  subst hx' ht''
  split at hg
  ·rename_i i hi
   have:=aKY (ty:=ty) R hi hg hc (hev x)
   have:=Yld.of_pure (d:=d) R this
   simpa [execOp,resolve,invoke,builtin] using this
  cases hg
 cases hg
theorem aDP {mu:Bool} {cl:Call} {dst ty pos after guard} {c:Prop} {out:Out} (hb:cl.callee = .builtin .append) (hg:cZ Pg mu d ev h (.call cl)=some (c,out)) (hc:c):Yld E π ρ h a S w d out (execOp evv ⟨dst,.call cl,ty,pos,after,guard⟩):=by
 obtain ⟨callee,args,argTypes⟩:=cl
 subst hb
 simp only [cZ] at hg
 split at hg
 ·rename_i x x' t t' hx ht'
  have hx':args = #[x,x']:=Array.ext' hx
  have ht'':argTypes = #[t,t']:=Array.ext' ht'
  subst hx' ht''
  split at hg
  ·rename_i i i' hi hi'
   split at hg
   ·rename_i e hd
    split at hg
    ·rename_i j hj
     have:=Yld.of_val (aE0 (ty:=ty) R hi hi' hd hj hg hc (hev x) (hev x') hdn hdm (hmen x))
     simpa [execOp,resolve,invoke,builtin] using this
    cases hg
   cases hg
  cases hg
 cases hg
omit hdn hdm hmen in
theorem zL {mu:Bool} {cl:Call} {dst ty pos after guard} {c:Prop} {out:Out} (hb:cl.callee = .builtin .min∨cl.callee = .builtin .max) (hg:cZ Pg mu d ev h (.call cl)=some (c,out)) (hc:c):Yld E π ρ h a S w d out (execOp evv ⟨dst,.call cl,ty,pos,after,guard⟩):=by
 obtain ⟨callee,⟨args⟩,argTypes⟩:=cl
 rcases hb with hb|hb<;>(simp only at hb;subst hb)
 ·simp only [cZ] at hg
  split at hg
  ·rename_i g hm
   cases hg
   have:=Yld.of_pure (d:=d) (out:=⟨g,none⟩) R ⟨rfl,aKZ hm (aR.map_ev hev args) argTypes ty⟩
   simpa [execOp,resolve,invoke,builtin] using this
  cases hg
 simp only [cZ] at hg
 split at hg
 ·rename_i g hm
  cases hg
  have:=Yld.of_pure (d:=d) (out:=⟨g,none⟩) R ⟨rfl,aK0 hm (aR.map_ev hev args) argTypes ty⟩
  simpa [execOp,resolve,invoke,builtin] using this
 cases hg
omit hdn hdm hmen in
theorem aE4 {mu:Bool} {t:TypeId} {ps:Array (Nat×Operand)} {dst ty pos after guard} {c:Prop} {out:Out} (hg:cZ Pg mu d ev h (.build t ps)=some (c,out)) (hc:c):Yld E π ρ h a S w d out (execOp evv ⟨dst,.build t ps,ty,pos,after,guard⟩):=by
 obtain ⟨ps⟩:=ps
 simp only [cZ] at hg
 have hk:(ps.map fun q=>(q.1,evv q.2)).map (·.1)=(ps.map fun q=>(q.1,ev q.2)).map (·.1):=by simp [Function.comp_def]
 have hr:aR π ρ E.yv ((ps.map fun q=>(q.1,ev q.2)).map (·.2)) ((ps.map fun q=>(q.1,evv q.2)).map (·.2)):=by
  have:=aR.map_ev hev (ps.map (·.2))
  simpa [Function.comp_def] using this
 split at hg
 ·rename_i i hi
  split at hg
  ·rename_i fs hd
   split at hg
   ·rename_i pl hpl
    split at hg
    ·rename_i c' cs hf
     cases hg
     have:=Yld.of_pure (d:=d) (out:=⟨mkAgg cs,none⟩) R ⟨rfl,aB5 R hi (.inl ⟨fs,pl,hd,hpl,rfl⟩) hf hc hk hr⟩
     simpa [execOp] using this
    cases hg
   cases hg
  ·rename_i m e hd
   split at hg
   ·rename_i j hj
    split at hg
    ·rename_i c' cs hf
     cases hg
     have:=Yld.of_pure (d:=d) (out:=⟨mkAgg cs,none⟩) R ⟨rfl,aB5 R hi (.inr ⟨m,e,j,hd,hj,rfl⟩) hf hc hk hr⟩
     simpa [execOp] using this
    cases hg
   cases hg
  cases hg
 cases hg
theorem aAf {mu:Bool} {t:TypeId} {n:Nat} {ps:Array (Nat×Operand)} {dst ty pos after guard} {c:Prop} {out:Out} (hg:cZ Pg mu d ev h (.buildSlice t n ps)=some (c,out)) (hc:c):Yld E π ρ h a S w d out (execOp evv ⟨dst,.buildSlice t n ps,ty,pos,after,guard⟩):=by
 obtain ⟨ps⟩:=ps
 simp only [cZ] at hg
 split at hg
 ·rename_i i hi
  split at hg
  ·rename_i e hd
   split at hg
   ·rename_i j hj
    split at hg
    ·rename_i hp
     have hr:=aR.map_ev hev (ps.map (·.2))
     have hn:n=(ps.map fun q=>ev q.2).length:=by
      have:=congrArg List.length hp
      simpa using this.symm
     have hgs:(ps.map (·.2)).map ev=ps.map fun q=>ev q.2:=by simp [Function.comp_def]
     rw [hgs] at hr
     have:=Yld.of_val (aAK R hi hd hj hg hc hn hr hdn hdm (tC.2 fun g hg=>by obtain ⟨q,_,rfl⟩:=List.mem_map.1 hg;exact hmen _))
     have hz:(List.range' 0 n).zip ((ps.map (·.2)).map evv)=ps.map fun q=>(q.1,evv q.2):=by
      rw [←List.range_eq_range',←hp]
      simp [List.zip_map',Function.comp_def]
     rw [hz] at this
     simpa [execOp] using this
    cases hg
   cases hg
  cases hg
 cases hg
omit hdn hdm hmen in
theorem aE5 {mu:Bool} {t:TypeId} {x:Operand} {lo hi mx:Option Operand} {dst ty pos after guard} {c:Prop} {out:Out} (hg:cZ Pg mu d ev h (.slice t x lo hi mx)=some (c,out)) (hc:c):Yld E π ρ h a S w d out (execOp evv ⟨dst,.slice t x lo hi mx,ty,pos,after,guard⟩):=by
 have vb:∀(o:Option Operand) g,o.map ev=some g→∃v,o.map evv=some v∧aK π ρ E.yv g v:=fun o g ho=>by
  cases o with
  |none=>simp at ho
  |some x=>simp only [Option.map_some,Option.some.injEq] at ho;exact ⟨_,rfl,ho ▸ hev x⟩
 have nb:∀(o:Option Operand),o.map ev=none→o.map evv=none:=fun o ho=>by
  cases o with
  |none=>rfl
  |some x=>simp at ho
 simp only [cZ] at hg
 split at hg
 ·rename_i i hi'
  split at hg
  ·rename_i e hd
   split at hg
   ·rename_i j hj
    exact Yld.of_pure R (xU (hi:=hi.map evv) (lo:=lo.map evv) R hi' (.inl ⟨hd,hj⟩) (fun _=>rfl) hg hc (hev x) (vb lo) (vb hi) (nb lo) (nb hi))
   cases hg
  ·rename_i m e hd
   split at hg
   ·rename_i j hj
    exact Yld.of_pure R (xU (hi:=hi.map evv) (lo:=lo.map evv) R hi' (.inr (.inl ⟨m,hd,hj⟩)) (fun _=>rfl) hg hc (hev x) (vb lo) (vb hi) (nb lo) (nb hi))
   cases hg
  ·rename_i hd
   exact Yld.of_pure R (xU (j:=i) (e:=0) (hi:=hi.map evv) (lo:=lo.map evv) R hi' (.inr (.inr hd)) (fun hx=>by
    rcases hx with ⟨e,he⟩|⟨m,e,he⟩<;>(rw [hd] at he;cases he)) hg hc (hev x) (vb lo) (vb hi) (nb lo) (nb hi))
  cases hg
 cases hg
theorem aGm {mu:Bool} {dst op ty pos after guard} {c:Prop} {out:Out} (hg:cZ Pg mu d ev h op=some (c,out)) (hc:c):Yld E π ρ h a S w d out (execOp evv ⟨dst,op,ty,pos,after,guard⟩):=by
 cases op
 case call cl=>
  obtain ⟨callee,args,argTypes⟩:=cl
  cases callee with
  |builtin b=>
   cases b
   case append=>exact aDP R hev hdn hdm hmen rfl hg hc
   case len=>exact aIL R hev rfl hg hc
   case min=>exact zL R hev (.inl rfl) hg hc
   case max=>exact zL R hev (.inr rfl) hg hc
   all_goals simp [cZ] at hg
  |invoke r n=>simp [cZ] at hg
  |value f=>simp [cZ] at hg
 case build t ps=>exact aE4 R hev hg hc
 case buildSlice t n ps=>exact aAf R hev hdn hdm hmen hg hc
 case slice t x lo hi mx=>exact aE5 R hev hg hc
 case nilCheck x=>exact aCS R hg hc (hev x)
 case move x=>
  simp only [cZ,yes,Option.some.injEq,Prod.mk.injEq] at hg
  obtain ⟨-,rfl⟩:=hg
  exact .const R rfl (hev x)
 case assign x=>
  simp only [cZ,yes,Option.some.injEq,Prod.mk.injEq] at hg
  obtain ⟨-,rfl⟩:=hg
  exact .const R rfl (hev x)
 case pick x y z=>
  simp only [cZ] at hg
  split at hg
  ·rename_i t ht
   simp only [yes,Option.some.injEq,Prod.mk.injEq] at hg
   obtain ⟨-,rfl⟩:=hg
   have hx:=hev x
   rw [ht] at hx
   simp only [aK,aS] at hx
   have:=Yld.const (d:=d) (out:=⟨uQ t (ev y) (ev z),none⟩) R rfl (aIK (b:=t) (hev y) (hev z))
   simpa [execOp,hx,asBool] using this
  cases hg
 case alloc t=>
  simp only [cZ] at hg
  split at hg
  ·rename_i i hi
   cases hg
   cases mu
   ·exact Yld.of_val (aIJ R hi hc hdn hdm (nL hi d))
   exact Yld.of_val (aG7 R hi hc hdn hdm (nL hi d))
  cases hg
 case box t x=>
  simp only [cZ] at hg
  split at hg
  ·exact Yld.of_val (aK1 R t hdn hdm hg hc (hev x) (hmen x))
  cases hg
 case load t x=>
  simp only [cZ] at hg
  split at hg
  ·rename_i i hi
   exact Yld.of_pure R (aDG R hi hg hc (hev x))
  cases hg
 case store t x v=>
  simp only [cZ] at hg
  split at hg
  ·rename_i i hi
   exact Yld.of_unit (aG4 R hi hg hc (hev x) (hev v))
  cases hg
 case binOp op t x y t2=>
  simp only [cZ] at hg
  split at hg
  ·rename_i i hi
   cases hb:jR Pg t i.desc op x y (ev x) (ev y) with
   |none=>rw [hb] at hg;cases hg
   |some q=>
    obtain ⟨c',g⟩:=q
    rw [hb] at hg
    cases hg
    obtain ⟨⟨r,hr,hv⟩,he⟩:=aG8 hi hb hc (hev x) (hev y) w
    refine Yld.of_pure (out:=⟨g,none⟩) R ⟨rfl,r,?_,hv⟩
    simp only [Sem.run_bind,he,Result.andThen_ok,hr]
  cases hg
 case unOp op t x=>
  simp only [cZ] at hg
  cases hb:pW op (ev x) with
  |none=>rw [hb] at hg;cases hg
  |some q=>
   obtain ⟨c',g⟩:=q
   rw [hb] at hg
   cases hg
   exact Yld.of_pure (out:=⟨g,none⟩) R ⟨rfl,aIH hb hc (hev x) w⟩
 case convert s t x=>
  simp only [cZ] at hg
  split at hg
  ·rename_i i j hi hj
   exact Yld.of_pure R (aDI hi hj hg hc (hev x) w)
  cases hg
 case makeInterface t x=>
  simp only [cZ] at hg
  split at hg
  ·rename_i i hi
   split at hg
   ·cases hg
   rename_i hI
   simp only [yes,Option.some.injEq,Prod.mk.injEq] at hg
   obtain ⟨-,rfl⟩:=hg
   obtain ⟨_,_,hund,_⟩:=dC hi
   refine Yld.of_pure (out:=⟨mkIface t (ev x),none⟩) R ⟨rfl,.iface t (evv x),?_,aK.mkIface (hev x)⟩
   simp only [Instr.makeInterface,Sem.run_bind,run_underlying hund,Result.andThen_ok]
   cases hD:i.desc<;>rw [hD] at hI<;>simp [dK] at hI<;>rfl
  cases hg
 case makeFunc f as bs=>
  simp only [cZ,yes,Option.some.injEq,Prod.mk.injEq] at hg
  obtain ⟨-,rfl⟩:=hg
  obtain ⟨as⟩:=as
  obtain ⟨bs⟩:=bs
  refine Yld.of_pure (out:=⟨mkFn f (as.map ev) (bs.map ev),none⟩) R ⟨rfl,.func f ⟨as.map evv⟩ ⟨bs.map evv⟩,?_,aK.mkFn (aR.map_ev hev as) (aR.map_ev hev bs)⟩
  simp [Instr.makeFunc]
 case makeMap t r=>
  simp only [cZ] at hg
  split at hg
  ·cases hg
   exact Yld.of_val (aE1 R t hdn hdm)
  cases hg
 case makeSlice t l cp=>
  simp only [cZ] at hg
  split at hg
  ·rename_i i hi
   split at hg
   ·rename_i e hd
    split at hg
    ·rename_i j hj
     split at hg
     ·rename_i hlc
      cases hl:jA (ev l) with
      |none=>
       have:eC j d (ev l)=none:=by
        unfold eC
        split
        ·rename_i he;rw [he] at hl;simp [jA] at hl
        rfl
       rw [this] at hg;cases hg
      |some n=>exact Yld.of_val (aCR R hi hd hj hdn hdm hl (hlc ▸ hl) hg hc (hev l) (hev cp))
     cases hg
    cases hg
   cases hg
  cases hg
 case fieldAddr t x f=>
  simp only [cZ] at hg
  split at hg
  ·rename_i i hi
   split at hg
   ·rename_i fs hd
    split at hg
    ·rename_i fd hf
     split at hg
     ·rename_i j hj
      split at hg
      ·cases hg
      rename_i h0
      exact Yld.of_pure R (aBT hi hd hf hj h0 hg hc (hev x))
     cases hg
    cases hg
   cases hg
  cases hg
 case field t x f=>
  simp only [cZ] at hg
  split at hg
  ·rename_i i hi
   split at hg
   ·rename_i fs hd
    split at hg
    ·rename_i fd hf
     split at hg
     ·rename_i j hj
      exact Yld.of_pure R (aG6 hi hd hf hj hg hc (hev x))
     cases hg
    cases hg
   cases hg
  cases hg
 case indexAddr t x ix=>
  simp only [cZ] at hg
  split at hg
  ·rename_i i n hi hn
   split at hg
   ·rename_i e hd
    split at hg
    ·rename_i j hj
     exact Yld.of_pure R (uS R hi hj (.inl hd) hn hg hc (hev x) (hev ix))
    cases hg
   ·rename_i m e hd
    split at hg
    ·rename_i j hj
     exact Yld.of_pure R (uS R hi hj (.inr ⟨m,hd⟩) hn hg hc (hev x) (hev ix))
    cases hg
   cases hg
  cases hg
 case index t x ix=>
  simp only [cZ] at hg
  split at hg
  ·rename_i i n hi hn
   split at hg
   ·rename_i m e hd
    split at hg
    ·rename_i j hj
     exact Yld.of_pure R (aB4 hi (.inl ⟨m,hd,hj⟩) hn hg hc (hev x) (hev ix))
    cases hg
   ·rename_i hd
    exact Yld.of_pure R (aB4 (e:=0) (j:=i) hi (.inr hd) hn hg hc (hev x) (hev ix))
   cases hg
  cases hg
 case lookup t m k ok=>
  simp only [cZ] at hg
  split at hg
  ·rename_i i hi
   split at hg
   ·rename_i kt vt hd
    split at hg
    ·rename_i z hz
     exact Yld.of_pure R (aHa R hi hd hz hg hc (hev k) (hev m))
    cases hg
   cases hg
  cases hg
 case mapUpdate t m k v=>
  simp only [cZ] at hg
  split at hg
  ·rename_i i hi
   split at hg
   ·rename_i kt vt hd
    exact Yld.of_unit (wH R hi hd hg hc (hev k) (hev v) (hev m))
   cases hg
  cases hg
 case insert t m k v=>
  simp only [cZ] at hg
  split at hg
  ·rename_i i hi
   split at hg
   ·rename_i kt vt hd
    exact Yld.of_unit (wH R hi hd hg hc (hev k) (hev v) (hev m))
   cases hg
  cases hg
 case mapEntry t m k=>
  simp only [cZ] at hg
  split at hg
  ·rename_i i hi
   split at hg
   ·rename_i kt vt hd
    split at hg
    ·rename_i z hz
     exact Yld.of_val (aDN R hi hd hz hg hc (hev k) (hev m))
    cases hg
   cases hg
  cases hg
 case entryStore t m s v=>
  simp only [cZ] at hg
  exact Yld.of_unit (aBV R hg hc (hev s) (hev v) (hev m))
 case typeAssert x xt t ok=>
  simp only [cZ] at hg
  split at hg
  ·rename_i i hi
   split at hg
   ·cases hg
   rename_i hI
   exact Yld.of_pure R (aBU hi (by simpa using hI) hg (hev x)).2
  cases hg
 case extract x i=>
  simp only [cZ] at hg
  exact Yld.of_pure R (aDJ hg (hev x)).2
 all_goals simp [cZ] at hg
end
end
section
open Go.RowKit
theorem cC {id:Nat}:∀ {gs:List G},G.mens id gs=true↔∃g∈gs,g.men id=true
 |[]=>by simp [G.mens]
 |g::gs=>by simp [G.mens,cC (gs:=gs)]
theorem nM {id n:Nat} {gs:List G} (h:G.mens id (gs.take n)=true):G.mens id gs=true:=by
 obtain ⟨g,hg,hm⟩:=cC.1 h
 exact cC.2 ⟨g,List.mem_of_mem_take hg,hm⟩
theorem nN {id n:Nat} {gs:List G} (h:G.mens id (gs.drop n)=true):G.mens id gs=true:=by
 obtain ⟨g,hg,hm⟩:=cC.1 h
 exact cC.2 ⟨g,List.mem_of_mem_drop hg,hm⟩
theorem zM {id off:Nat} {cs vs:List G} (h:G.mens id (splice cs off vs)=true):G.mens id cs=true∨G.mens id vs=true:=by
 obtain ⟨g,hg,hm⟩:=cC.1 h
 rcases qU hg with h1|h1
 ·exact .inl (cC.2 ⟨g,h1,hm⟩)
 exact .inr (cC.2 ⟨g,h1,hm⟩)
theorem tH {id i:Nat} {gs:List G} {g:G} (h:gs[i]? = some g) (hm:g.men id=true):G.mens id gs=true:=
 cC.2 ⟨g,List.mem_of_getElem? h,hm⟩
theorem xW {id:Nat} {g:G} {gs:List G} (h:g.cells=some gs) (hm:G.mens id gs=true):g.men id=true:=by
 cases g<;>simp only [G.cells,reduceCtorEq,Option.some.injEq] at h
 case p x=>cases x<;>simp only [G.cells,reduceCtorEq,Option.some.injEq] at h<;>subst h<;>first|(rw [gU] at hm;cases hm)|(simp [G.mens,G.men] at hm)
 case agg cs=>subst h;simpa [G.men] using hm
 all_goals (subst h;simpa [G.mens] using hm)
theorem pZ {id:Nat} {cs:List G} (h:(mkAgg cs).men id=true):G.mens id cs=true:=by
 unfold mkAgg at h
 split at h
 ·simp [G.men] at h
 simpa [G.men] using h
theorem jC {id:Nat} {cs:List G} (h:(mkTuple cs).men id=true):G.mens id cs=true:=by
 unfold mkTuple at h
 split at h
 ·simp [G.men] at h
 simpa [G.men] using h
theorem aDQ {id:Nat} {t:TypeId} {g:G} (h:(mkIface t g).men id=true):g.men id=true:=by
 unfold mkIface at h
 split at h
 ·simp [G.men] at h
 simpa [G.men] using h
theorem aIM {id:Nat} {f:Fn} {a b:List G} (h:(mkFn f a b).men id=true):G.mens id a=true∨G.mens id b=true:=by
 unfold mkFn at h
 split at h
 ·split at h
  ·simp [G.men] at h
  simpa [G.men] using h
 simpa [G.men] using h
theorem aGn {k:IntKind} {n:Int} {c0 c:Prop} {g:G} (hg:nC k n c0=some (c,g)):∃p,g = .p p:=by
 unfold nC at hg
 split at hg<;>(cases hg;exact ⟨_,rfl⟩)
theorem aMX {op:BinOp} {k:IntKind} {a b:Int} {c:Prop} {g:G} (hg:aAa op k a b=some (c,g)):∃p,g = .p p:=by
 unfold aAa at hg
 split at hg<;>first|exact aGn hg|(cases hg;exact ⟨_,rfl⟩)|cases hg
theorem aDR {op:BinOp} {k:IntKind} {a b:Int} {c:Prop} {g:G} (hg:kJ op k a b=some (c,g)):∃p,g = .p p:=by
 unfold kJ at hg
 split at hg<;>first|(cases hg;exact ⟨_,rfl⟩)|cases hg
theorem aMY {D:TypeDesc} {op:BinOp} {x y:G} {c:Prop} {g:G} (hg:aAb D op x y=some (c,g)):∃p,g = .p p:=by
 unfold aAb at hg
 split at hg
 ·split at hg
  ·exact aDR hg
  ·exact aDR hg
  split at hg
  ·exact aMX hg
  cases hg
 ·split at hg
  ·split at hg<;>first|(cases hg;exact ⟨_,rfl⟩)|cases hg
  cases hg
 ·split at hg<;>first|(cases hg;exact ⟨_,rfl⟩)|cases hg
 ·split at hg
  ·split at hg<;>first|(cases hg;exact ⟨_,rfl⟩)|cases hg
  cases hg
 cases hg
theorem aIN {Pg:Program} {t:TypeId} {D:TypeDesc} {op:BinOp} {x y:Operand} {a b:G} {c:Prop} {g:G} (hg:jR Pg t D op x y a b=some (c,g)):∃p,g = .p p:=by
 unfold jR at hg
 split at hg
 ·split at hg
  ·split at hg
   ·split at hg<;>first|(cases hg;exact ⟨_,rfl⟩)|cases hg
   cases hg
  cases hg
 unfold nW at hg
 split at hg
 ·split at hg
  ·split at hg<;>first|(cases hg;exact ⟨_,rfl⟩)|cases hg
  cases hg
 ·split at hg
  ·split at hg<;>first|(cases hg;exact ⟨_,rfl⟩)|cases hg
  cases hg
 ·split at hg
  ·split at hg<;>first|(cases hg;exact ⟨_,rfl⟩)|cases hg
  cases hg
 exact aMY hg
theorem aGo:∀ {gs:List G} {a:Int} {g:G},nT a gs=some g→∃p,g = .p p
 |[],a,g,h=>by simp only [nT,Option.some.injEq] at h;exact ⟨_,h.symm⟩
 |x::gs,a,g,h=>by
  unfold nT at h
  split at h
  ·cases h;exact ⟨_,rfl⟩
  ·rename_i e;cases e;exact aGo h
  cases h
theorem aGp:∀ {gs:List G} {a:Int} {g:G},nU a gs=some g→∃p,g = .p p
 |[],a,g,h=>by simp only [nU,Option.some.injEq] at h;exact ⟨_,h.symm⟩
 |x::gs,a,g,h=>by
  unfold nU at h
  split at h
  ·cases h;exact ⟨_,rfl⟩
  ·rename_i e;cases e;exact aGp h
  cases h
theorem aMZ {gs:List G} {g:G} (h:aAc gs=some g):∃p,g = .p p:=by
 unfold aAc at h
 split at h
 ·exact aGo h
 cases h
theorem aM0 {gs:List G} {g:G} (h:aAd gs=some g):∃p,g = .p p:=by
 unfold aAd at h
 split at h
 ·exact aGp h
 cases h
theorem aE6 {a b:Nat} (h:(a==b)=true):b=a:=(beq_iff_eq.1 h).symm
def Lv (L:Nat→Prop) (out:Out):Prop:=
 (∀id,out.val.men id=true→L id∨∃ob,out.put=some (id,ob))∧(∀p,out.put=some p→p.2 ≠ .none∧∀id,p.2.men id=true→L id∨id=p.1)
variable {Pg:Program} [Kn Pg] {h:Nat→Ob} {c:Prop} {out:Out} {L:Nat→Prop}
theorem Lv.val {g:G} (hg:∀id,g.men id=true→L id):Lv L ⟨g,none⟩:=⟨fun id hm=>.inl (hg id hm),fun _ e=>by cases e⟩
theorem Lv.p {v:P}:Lv L ⟨.p v,none⟩:=.val fun id hm=>by simp [G.men] at hm
theorem Lv.put {g:G} {i:Nat} {ob:Ob} (ho:ob ≠ .none) (hg:∀id,g.men id=true→L id∨id=i) (hb:∀id,ob.men id=true→L id∨id=i):Lv L ⟨g,some (i,ob)⟩:=
 ⟨fun id hm=>(hg id hm).imp (fun x=>x) fun e=>⟨ob,by rw [e]⟩,fun p e=>by cases e;exact ⟨ho,hb⟩⟩
theorem aCT {i:Nat} {ob:Ob} (ho:ob ≠ .none) {id:Nat} (hi:h id ≠ .none∨id=i):lI h (some (i,ob)) id ≠ .none:=by
 simp only [lI,upd]
 split
 ·exact ho
 rcases hi with hi|hi
 ·exact hi
 contradiction
section
variable (hh:∀j id,(h j).men id=true→L id)
include hh
theorem aDS {i:TI} {g:G} (hg:pB i h g=some (c,out)) (hm:∀id,g.men id=true→L id):Lv L out:=by
 unfold pB at hg
 split at hg
 ·rename_i id off
  split at hg
  ·rename_i cs fz ho
   have hcs:∀id',G.mens id' cs=true→L id':=fun id' hx=>hh id id' (by rw [ho];exact hx)
   split at hg
   ·cases hg;exact .val fun id' hx=>hcs id' (nN (nM (pZ hx)))
   split at hg
   ·rename_i g' hg'
    simp only [yes,Option.some.injEq,Prod.mk.injEq] at hg;obtain ⟨-,rfl⟩:=hg
    exact .val fun id' hx=>hcs id' (tH hg' hx)
   cases hg
  cases hg
 ·rename_i cs
  simp only [G.men] at hm
  split at hg
  ·cases hg;exact .val fun id' hx=>hm id' (nM (pZ hx))
  split at hg
  ·rename_i g' hg'
   simp only [yes,Option.some.injEq,Prod.mk.injEq] at hg;obtain ⟨-,rfl⟩:=hg
   exact .val fun id' hx=>hm id' (tH hg' hx)
  cases hg
 ·split at hg
  ·split at hg
   ·split at hg
    ·cases hg;exact .p
    cases hg
   split at hg
   ·cases hg;exact .p
   cases hg
  cases hg
 cases hg
theorem aHc {i:TI} {v g:G} (hg:lH i h v g=some (c,out)) (hv:∀id,v.men id=true→L id):Lv L out:=by
 unfold lH at hg
 split at hg
 ·rename_i id off
  split at hg
  ·rename_i cs fz ho
   have hcs:∀id',G.mens id' cs=true→L id':=fun id' hx=>hh id id' (by rw [ho];exact hx)
   split at hg
   ·split at hg
    ·rename_i vs hvs
     cases hg
     refine .put (by simp) (fun id' hx=>by simp [G.men] at hx) fun id' hx=>.inl ?_
     rcases zM hx with h1|h1
     ·exact hcs id' h1
     exact hv id' (xW hvs h1)
    cases hg
   cases hg
   refine .put (by simp) (fun id' hx=>by simp [G.men] at hx) fun id' hx=>.inl ?_
   obtain ⟨g',hg',hm'⟩:=cC.1 hx
   rcases List.mem_or_eq_of_mem_set hg' with h1|h1
   ·exact hcs id' (cC.2 ⟨g',h1,hm'⟩)
   subst h1;exact hv id' hm'
  cases hg
 ·split at hg
  ·split at hg
   ·split at hg
    ·cases hg
     exact .put (by simp) (fun id' hx=>by simp [G.men] at hx) fun id' hx=>by simp [Ob.men] at hx
    cases hg
   split at hg
   ·cases hg
    exact .put (by simp) (fun id' hx=>by simp [G.men] at hx) fun id' hx=>by simp [Ob.men] at hx
   cases hg
  cases hg
 cases hg
omit hh in
theorem aB6 {place:Nat→Option (Nat×Nat)}:∀ {qs:List (Nat×G)} {cs:List G} {c:Prop} {r:List G},kD place h cs qs=some (c,r)→∀id,G.mens id r=true→G.mens id cs=true∨∃q∈qs,q.2.men id=true
 |[],cs,c,r,hf,id,hm=>by simp only [kD,Option.some.injEq,Prod.mk.injEq] at hf;obtain ⟨-,rfl⟩:=hf;exact .inl hm
 |(i,v)::qs,cs,c,r,hf,id,hm=>by
  simp only [kD] at hf
  split at hf
  ·rename_i off n vs _ hvs
   split at hf
   ·rename_i c' r' hf'
    cases hf
    rcases aB6 hf' id hm with h1|⟨q,hq,h1⟩
    ·rcases zM h1 with h2|h2
     ·exact .inl h2
     exact .inr ⟨(i,v),by simp,xW hvs h2⟩
    exact .inr ⟨q,by simp [hq],h1⟩
   cases hf
  cases hf
omit hh in
theorem xX {D:TypeDesc} {sz:Nat} {lo hi:Option G} {g:G} (hg:jO D sz h lo hi g=some (c,out)) (hm:∀id,g.men id=true→L id):Lv L out:=by
 unfold jO at hg
 split at hg
 ·split at hg
  ·split at hg
   ·cases hg;exact .p
   cases hg
  cases hg
 ·split at hg
  ·split at hg
   ·split at hg
    ·cases hg;exact .p
    cases hg
   cases hg
  cases hg
 ·split at hg
  ·split at hg
   ·cases hg;exact .val fun id' hx=>hm id' (by simpa [G.men] using hx)
   cases hg
  cases hg
 ·split at hg
  ·split at hg
   ·cases hg;exact .val fun id' hx=>hm id' (by simpa [G.men] using hx)
   cases hg
  cases hg
 ·split at hg
  ·split at hg
   ·cases hg;exact .p
   cases hg
  cases hg
 cases hg
omit hh in
theorem uV {D:TypeDesc} {sz:Nat} {n:Int} {g:G} (hg:eA D sz h n g=some (c,out)) (hm:∀id,g.men id=true→L id):Lv L out:=by
 have key:∀ {xs:List P} {c0:Prop},nD sz xs n c0=some (c,out)→Lv L out:=fun {xs c0} hx=>by
  unfold nD at hx
  split at hx
  ·cases hx
   exact .val fun id' hy=>by
    rw [G.men,gU] at hy;cases hy
  cases hx
 unfold eA at hg
 split at hg
 ·split at hg
  ·cases hg;exact .val fun id' hx=>hm id' (by simpa [G.men] using hx)
  cases hg
 ·split at hg
  ·cases hg;exact .val fun id' hx=>hm id' (by simp only [G.men] at hx ⊢;exact nN hx)
  cases hg
 ·split at hg
  ·exact key hg
  cases hg
 ·split at hg
  ·split at hg
   ·exact key hg
   ·cases hg;exact .val fun id' hx=>hm id' (by simpa [G.men] using hx)
   cases hg
  cases hg
 ·split at hg
  ·cases hg;exact .val fun id' hx=>hm id' (by simpa [G.men] using hx)
  cases hg
 cases hg
omit hh in
theorem aB7 {t:TypeId} {i:TI} (ht:ti Pg t=some i) {z:G} (hz:eX i=some z) (id:Nat):z.men id=false:=by
 have h0:=nL ht id
 unfold eX at hz
 split at hz
 ·cases hz
  cases hm:(mkAgg i.zero).men id with
  |false=>rfl
  |true=>rw [pZ hm] at h0;cases h0
 split at hz
 ·rename_i g hg
  cases hz
  rw [hg] at h0
  simpa [G.mens] using h0
 cases hz
omit hh in
theorem aE7 {D:TypeDesc} {e:TypeId} {sz bytes:Nat} {mu:Bool} {d:Nat} {b s:G} (hg:iN D e sz bytes mu d h b s=some (c,out)) (hm:∀id,b.men id=true→L id):Lv L out:=by
 unfold iN at hg
 split at hg
 ·split at hg
  ·cases hg
   exact .put (by simp) (fun id' hx=>.inr (by simp only [G.men] at hx;exact aE6 hx)) fun id' hx=>by simp [Ob.men] at hx
  ·split at hg
   ·cases hg
    exact .put (by simp) (fun id' hx=>.inl (hm id' (by simpa [G.men] using hx))) fun id' hx=>by simp [Ob.men] at hx
   cases hg
  cases hg
 cases hg
theorem aGq {mu:Bool} {d:Nat} {ev:Operand→G} {op:Op} (hm:∀x id,(ev x).men id=true→L id) (hg:cZ Pg mu d ev h op=some (c,out)):Lv L out:=by
 cases op<;>simp only [cZ,reduceCtorEq] at hg
 case move x=>simp only [yes,Option.some.injEq,Prod.mk.injEq] at hg;obtain ⟨-,rfl⟩:=hg;exact .val (hm x)
 case assign x=>simp only [yes,Option.some.injEq,Prod.mk.injEq] at hg;obtain ⟨-,rfl⟩:=hg;exact .val (hm x)
 case pick x y z=>
  split at hg
  ·rename_i t _
   simp only [yes,Option.some.injEq,Prod.mk.injEq] at hg;obtain ⟨-,rfl⟩:=hg
   cases t
   ·exact .val (hm z)
   exact .val (hm y)
  cases hg
 case alloc t=>
  split at hg
  ·rename_i i hi
   cases hg
   exact .put (by cases mu<;>simp) (fun id' hx=>.inr (by simp only [G.men] at hx;exact aE6 hx)) fun id' hx=>by
    cases mu<;>(simp only [cond_true,cond_false,Ob.men] at hx;rw [nL hi] at hx;cases hx)
  cases hg
 case box t x=>
  split at hg
  ·unfold aAC at hg
   split at hg
   ·rename_i vs hvs
    cases hg
    exact .put (by simp) (fun id' hx=>.inr (by simp only [G.men] at hx;exact aE6 hx)) fun id' hx=>.inl (hm x id' (xW hvs hx))
   cases hg
  cases hg
 case build t ps=>
  split at hg
  ·rename_i i hi
   have key:∀ {place:Nat→Option (Nat×Nat)} {c':Prop} {cs:List G},kD place h i.zero (ps.toList.map fun q=>(q.1,ev q.2))=some (c',cs)→Lv L ⟨mkAgg cs,none⟩:=fun hf=>.val fun id' hx=>by
    rcases aB6 hf id' (pZ hx) with h1|⟨q,hq,h1⟩
    ·rw [nL hi] at h1;cases h1
    obtain ⟨q',_,rfl⟩:=List.mem_map.1 hq
    exact hm _ _ h1
   split at hg
   ·split at hg
    ·split at hg
     ·rename_i hf;cases hg;exact key hf
     cases hg
    cases hg
   ·split at hg
    ·split at hg
     ·rename_i hf;cases hg;exact key hf
     cases hg
    cases hg
   cases hg
  cases hg
 case buildSlice t n ps=>
  split at hg
  ·split at hg
   ·split at hg
    ·split at hg
     ·unfold eG at hg
      split at hg
      ·cases hg
       exact .put (by simp) (fun id' hx=>.inr (by simp only [G.men] at hx;exact aE6 hx)) fun id' hx=>by simp [Ob.men] at hx
      cases hg
      refine .put (by simp) (fun id' hx=>.inr (by simp only [G.men] at hx;exact aE6 hx)) fun id' hx=>?_
      simp only [Ob.men] at hx
      rw [←Bool.not_eq_false,tC] at hx
      simp only [Classical.not_forall] at hx
      obtain ⟨g,hg1,hg2⟩:=hx
      obtain ⟨q,_,rfl⟩:=List.mem_map.1 hg1
      exact .inl (hm _ id' (by simpa using hg2))
     cases hg
    cases hg
   cases hg
  cases hg
 case load t x=>
  split at hg
  ·exact aDS hh hg (hm x)
  cases hg
 case store t x v=>
  split at hg
  ·exact aHc hh hg (hm v)
  cases hg
 case nilCheck x=>
  unfold fO at hg
  have hx:=hm x
  split at hg<;>simp only [yes,Option.some.injEq,Prod.mk.injEq,reduceCtorEq] at hg
  all_goals
   obtain ⟨-,rfl⟩:=hg
   rename_i he
   rw [he] at hx
   exact .val hx
 case binOp op t x y t2=>
  split at hg
  ·rename_i i hi
   cases hb:jR Pg t i.desc op x y (ev x) (ev y) with
   |none=>rw [hb] at hg;cases hg
   |some q=>
    obtain ⟨c',g⟩:=q
    rw [hb] at hg
    cases hg
    exact .val fun id' hx=>by
     have:∀b:Bool,(G.p (.bool b)).men id'=false:=fun b=>rfl
     exfalso
     have key:∀g,(∃p,g=G.p p)→g.men id'=true→False:=fun g ⟨p,e⟩ hx=>by subst e;simp [G.men] at hx
     refine key g ?_ hx
     exact aIN hb
  cases hg
 case unOp op t x=>
  cases hb:pW op (ev x) with
  |none=>rw [hb] at hg;cases hg
  |some q=>
   obtain ⟨c',g⟩:=q
   rw [hb] at hg
   cases hg
   have:∃p,g = .p p:=by
    unfold pW at hb
    split at hb
    ·split at hb
     ·cases hb;exact ⟨_,rfl⟩
     cases hb
    ·split at hb
     ·exact aGn hb
     cases hb
    cases hb
   obtain ⟨p,rfl⟩:=this
   exact .p
 case convert s t x=>
  split at hg
  ·unfold gS at hg
   split at hg
   ·split at hg
    ·cases hg;exact .p
    ·cases hg;exact .p
    cases hg
   ·split at hg
    ·simp only [yes,Option.some.injEq,Prod.mk.injEq] at hg;obtain ⟨-,rfl⟩:=hg;exact .p
    cases hg
   cases hg
  cases hg
 case makeInterface t x=>
  split at hg
  ·split at hg
   ·cases hg
   simp only [yes,Option.some.injEq,Prod.mk.injEq] at hg;obtain ⟨-,rfl⟩:=hg
   exact .val fun id' hx=>hm x id' (aDQ hx)
  cases hg
 case makeFunc f as bs=>
  simp only [yes,Option.some.injEq,Prod.mk.injEq] at hg;obtain ⟨-,rfl⟩:=hg
  refine .val fun id' hx=>?_
  rcases aIM hx with h1|h1
  ·obtain ⟨g,hg,h2⟩:=cC.1 h1
   obtain ⟨x,_,rfl⟩:=List.mem_map.1 hg
   exact hm x id' h2
  obtain ⟨g,hg,h2⟩:=cC.1 h1
  obtain ⟨x,_,rfl⟩:=List.mem_map.1 hg
  exact hm x id' h2
 case makeMap t r=>
  split at hg
  ·cases hg
   exact .put (by simp) (fun id' hx=>.inr (by simp only [G.men] at hx;exact aE6 hx)) fun id' hx=>by simp [Ob.men] at hx
  cases hg
 case makeSlice t l cp=>
  split at hg
  ·split at hg
   ·split at hg
    ·rename_i j hj
     split at hg
     ·unfold eC at hg
      split at hg
      ·cases hg
       refine .put (by simp) (fun id' hx=>.inr (by simp only [G.men] at hx;exact aE6 hx)) fun id' hx=>?_
       obtain ⟨g,hg,h2⟩:=cC.1 hx
       obtain ⟨q,_,rfl⟩:=List.mem_map.1 hg
       exfalso
       have h0:=nL hj id'
       rw [List.getD_eq_getElem?_getD] at h2
       cases hq:j.zero[q%j.size]? with
       |none=>rw [hq] at h2;simp [G.men] at h2
       |some g'=>rw [hq] at h2;rw [tH hq (by simpa using h2)] at h0;cases h0
      cases hg
     cases hg
    cases hg
   cases hg
  cases hg
 case slice t x lo hi mx=>
  split at hg
  ·split at hg
   ·split at hg
    ·exact xX hg (hm x)
    cases hg
   ·split at hg
    ·exact xX hg (hm x)
    cases hg
   ·exact xX hg (hm x)
   cases hg
  cases hg
 case fieldAddr t x f=>
  split at hg
  ·split at hg
   ·split at hg
    ·split at hg
     ·split at hg
      ·cases hg
      unfold eU at hg
      have hx:=hm x
      split at hg
      ·rename_i he
       rw [he] at hx
       simp only [yes,Option.some.injEq,Prod.mk.injEq] at hg;obtain ⟨-,rfl⟩:=hg
       exact .val fun id' hy=>hx id' (by simpa [G.men] using hy)
      ·rename_i he
       rw [he] at hx
       cases hg
       exact .val fun id' hy=>hx id' (by simp only [G.men] at hy ⊢;exact nN hy)
      cases hg
     cases hg
    cases hg
   cases hg
  cases hg
 case field t x f=>
  split at hg
  ·split at hg
   ·split at hg
    ·split at hg
     ·unfold nS at hg
      have hx:=hm x
      split at hg
      ·split at hg
       ·cases hg;exact .p
       split at hg
       ·simp only [yes,Option.some.injEq,Prod.mk.injEq] at hg;obtain ⟨-,rfl⟩:=hg;exact .p
       cases hg
      ·rename_i he
       rw [he] at hx
       simp only [G.men] at hx
       split at hg
       ·cases hg
        exact .val fun id' hy=>hx id' (nN (nM (pZ hy)))
       split at hg
       ·rename_i hq
        simp only [yes,Option.some.injEq,Prod.mk.injEq] at hg;obtain ⟨-,rfl⟩:=hg
        exact .val fun id' hy=>hx id' (tH hq hy)
       cases hg
      cases hg
     cases hg
    cases hg
   cases hg
  cases hg
 case indexAddr t x ix=>
  split at hg
  ·split at hg
   ·split at hg
    ·exact uV hg (hm x)
    cases hg
   ·split at hg
    ·exact uV hg (hm x)
    cases hg
   cases hg
  cases hg
 case index t x ix=>
  have key:∀ {D:TypeDesc} {j:TI} {n:Int} {g:G},kK D j n g=some (c,out)→Lv L out:=fun {D j n g} hx=>by
   unfold kK at hx
   split at hx
   ·split at hx
    ·split at hx
     ·cases hx;exact .p
     split at hx
     ·cases hx;exact .p
     cases hx
    cases hx
   ·split at hx
    ·split at hx
     ·cases hx;exact .p
     cases hx
    cases hx
   cases hx
  split at hg
  ·split at hg
   ·split at hg
    ·exact key hg
    cases hg
   ·exact key hg
   cases hg
  cases hg
 case lookup t m k ok=>
  split at hg
  ·split at hg
   ·split at hg
    ·rename_i z hz
     unfold iO at hg
     split at hg
     ·split at hg
      ·split at hg
       ·rename_i b g hb
        cases hg
        have hgm:∀id,g.men id=false:=fun id=>by
         unfold eN at hb
         split at hb
         ·simp only [Option.some.injEq,Prod.mk.injEq] at hb;obtain ⟨-,rfl⟩:=hb;rfl
         split at hb
         ·rename_i hz'
          simp only [Option.some.injEq,Prod.mk.injEq] at hb;obtain ⟨-,rfl⟩:=hb
          exact aB7 hz hz' id
         cases hb
        refine .val fun id' hx=>?_
        cases ok
        ·exact absurd hx (by simp [hgm id'])
        have:=jC hx
        simp [G.mens,G.men,hgm id'] at this
       cases hg
      cases hg
     cases hg
    cases hg
   cases hg
  cases hg
 case mapUpdate t m k v=>
  split at hg
  ·split at hg
   ·unfold eB at hg
    split at hg
    ·split at hg
     ·cases hg
      exact .put (by simp) (fun id' hx=>by simp [G.men] at hx) fun id' hx=>by simp [Ob.men] at hx
     cases hg
    cases hg
   cases hg
  cases hg
 case insert t m k v=>
  split at hg
  ·split at hg
   ·unfold eB at hg
    split at hg
    ·split at hg
     ·cases hg
      exact .put (by simp) (fun id' hx=>by simp [G.men] at hx) fun id' hx=>by simp [Ob.men] at hx
     cases hg
    cases hg
   cases hg
  cases hg
 case mapEntry t m k=>
  split at hg
  ·split at hg
   ·split at hg
    ·unfold fN at hg
     split at hg
     ·split at hg
      ·cases hg
       exact .put (by simp) (fun id' hx=>by
        have:=jC hx
        simp [G.mens,G.men] at this) fun id' hx=>by simp [Ob.men] at hx
      cases hg
     cases hg
    cases hg
   cases hg
  cases hg
 case entryStore t m s v=>
  unfold eH at hg
  split at hg
  ·split at hg
   ·cases hg
    exact .put (by simp) (fun id' hx=>by simp [G.men] at hx) fun id' hx=>by simp [Ob.men] at hx
   cases hg
  cases hg
 case typeAssert x xt t ok=>
  split at hg
  ·rename_i i hi
   split at hg
   ·cases hg
   have hz2:∀z,eX i=some z→Lv L ⟨mkTuple [z,.p (.bool false)],none⟩:=fun z hz=>.val fun id' hx=>by
    have:=jC hx
    simp [G.mens,G.men,aB7 hi hz id'] at this
   unfold eI at hg
   split at hg
   ·split at hg
    ·simp only [yes,Option.some.injEq,Prod.mk.injEq] at hg;obtain ⟨-,rfl⟩:=hg
     cases ok
     ·exact .p
     exact .val fun id' hx=>by
      simp only [if_true] at hx
      have:=jC hx
      simp [G.mens,G.men] at this
    split at hg
    ·split at hg
     ·rename_i z hz
      simp only [yes,Option.some.injEq,Prod.mk.injEq] at hg;obtain ⟨-,rfl⟩:=hg
      exact hz2 z hz
     cases hg
    cases hg
   ·split at hg
    ·split at hg
     ·rename_i z hz
      simp only [yes,Option.some.injEq,Prod.mk.injEq] at hg;obtain ⟨-,rfl⟩:=hg
      exact hz2 z hz
     cases hg
    cases hg
   cases hg
  cases hg
 case extract x i=>
  unfold gT at hg
  have hx:=hm x
  split at hg
  ·split at hg
   ·simp only [yes,Option.some.injEq,Prod.mk.injEq] at hg;obtain ⟨-,rfl⟩:=hg;exact .p
   cases hg
  ·rename_i he
   rw [he] at hx
   simp only [G.men] at hx
   split at hg
   ·rename_i hq
    simp only [yes,Option.some.injEq,Prod.mk.injEq] at hg;obtain ⟨-,rfl⟩:=hg
    exact .val fun id' hy=>hx id' (tH hq hy)
   cases hg
  cases hg
 case call cl=>
  split at hg
  ·split at hg
   ·split at hg
    ·split at hg
     ·unfold aAD at hg
      split at hg<;>(try split at hg)<;>(try split at hg)<;>simp only [yes,Option.some.injEq,Prod.mk.injEq,reduceCtorEq] at hg
      all_goals (obtain ⟨-,rfl⟩:=hg;exact .p)
     cases hg
    cases hg
   ·split at hg
    ·split at hg
     ·split at hg
      ·split at hg
       ·exact aE7 hg (hm _)
       cases hg
      cases hg
     cases hg
    cases hg
   ·split at hg
    ·rename_i g hq
     simp only [yes,Option.some.injEq,Prod.mk.injEq] at hg;obtain ⟨-,rfl⟩:=hg
     obtain ⟨p,rfl⟩:=aMZ hq
     exact .p
    cases hg
   ·split at hg
    ·rename_i g hq
     simp only [yes,Option.some.injEq,Prod.mk.injEq] at hg;obtain ⟨-,rfl⟩:=hg
     obtain ⟨p,rfl⟩:=aM0 hq
     exact .p
    cases hg
   cases hg
  cases hg
end
end
section
open Go.RowKit
inductive GD where
 |call (f:FuncId) (args caps:List G)
 |mark (id:Nat)
def GD.men (id:Nat):GD→Bool
 |.call _ args caps=>G.mens id args || G.mens id caps
 |.mark i=>i==id
structure Sg {Pg:Program} (E:Env Pg) where
 fr:Nat→G
 h:Nat→Ob
 A:E.α
 df:List GD
structure Cx {Pg:Program} (E:Env Pg) where
 O0:Nat→Prop
 w0:World
 π0:PM
 ρ0:RM
 N:Nat
 lim:Nat
 limOk:lim≤90000
def aHd (π:PM) (ρ:RM) (y:Value):GD→Deferred→Prop
 |.call f args caps,d=>∃vs us,d={ target:=.fn (.func f) ⟨us⟩,args:=⟨vs⟩ }∧aR π ρ y args vs∧aR π ρ y caps us
 |.mark id,d=>d={ target:=.collected (ρ id).blk,args:=#[] }
def rS (π:PM) (ρ:RM) (y:Value):List GD→List Deferred→Prop
 |[],ds=>ds=[]
 |g::gs,ds=>∃d ds',ds=d::ds'∧aHd π ρ y g d∧rS π ρ y gs ds'
theorem rS.mono {π π':PM} {ρ ρ':RM} {y:Value} (h:PM.le π π'):∀ {gs:List GD} {ds:List Deferred},(∀id,∀g∈gs,g.men id=true→fL (ρ id) (ρ' id))→rS π ρ y gs ds→rS π' ρ' y gs ds
 |[],_,_,k=>by simpa only [rS] using k
 |g::gs,ds,m,k=>by
  simp only [rS] at k ⊢
  obtain ⟨d,ds',rfl,hd,hds⟩:=k
  refine ⟨d,ds',rfl,?_,rS.mono h (fun id g hg=>m id g (by simp [hg])) hds⟩
  cases g with
  |call f args caps=>
   obtain ⟨vs,us,rfl,hv,hu⟩:=hd
   exact ⟨vs,us,rfl,hv.mono h fun id hi=>m id (.call f args caps) (by simp) (by simp [GD.men,hi]),hu.mono h fun id hi=>m id (.call f args caps) (by simp) (by simp [GD.men,hi])⟩
  |mark i=>
   have:=m i (.mark i) (by simp) (by simp [GD.men])
   simp only [aHd] at hd ⊢
   rcases this with e|⟨e,_⟩<;>rw [e]<;>exact hd
variable {Pg:Program} [Kn Pg] {E:Env Pg} {C:Cx E} {σ:Sg E} {a:Act} {w:World} {π:PM} {ρ:RM} {S:Nat→Prop}
structure St (C:Cx E) (σ:Sg E) (a:Act) (w:World) (π:PM) (ρ:RM) (S:Nat→Prop):Prop where
 size:a.tmps.size=C.N
 vals:∀t,aK π ρ E.yv (σ.fr t) (a.tmps.getD t undef)
 defs:rS π ρ E.yv σ.df a.defers
 rel:Rel E π ρ σ.h σ.A S w
 trans:cH C.O0 C.w0 C.π0 (Own ρ σ.h S) w π
 step:∀j,j<C.lim→fL (C.ρ0 j) (ρ j)
 wfr:∀t id,(σ.fr t).men id=true→σ.h id ≠ .none
 wfh:∀j id,(σ.h j).men id=true→σ.h id ≠ .none
 wfd:∀g∈σ.df,∀id,g.men id=true→σ.h id ≠ .none
def Holds (C:Cx E) (σ:Sg E) (a:Act) (w:World):Prop:=∃π ρ S,St C σ a w π ρ S
def vO (f:Nat→G) (dst:Option Nat) (g:G):Nat→G:=
 match dst with
 |some t=>upd f t g
 |none=>f
def cU (h:Nat→Ob):List (Nat×Ob)→Nat→Ob
 |[]=>h
 |(i,ob)::r=>cU (upd h i ob) r
def Sg.put (σ:Sg E) (dst:Option Nat) (g:G) (ps:List (Nat×Ob)):Sg E:={ σ with fr:=vO σ.fr dst g,h:=cU σ.h ps }
theorem fL.trans {r r' r'':RO} (h:fL r r') (k:fL r' r''):fL r r'':=by
 rcases h with rfl|⟨h1,h2⟩
 ·exact k
 rcases k with rfl|⟨k1,k2⟩
 ·exact .inr ⟨h1,h2⟩
 exact .inr ⟨k1.trans h1,by omega⟩
theorem aIO {a:Act} {dst:Option Nat} {v:Value} (hd:∀t,dst=some t→t<a.tmps.size) (t:Nat):(a.put dst v).tmps.getD t undef=if dst=some t then v else a.tmps.getD t undef:=by
 cases dst with
 |none=>simp [Act.put]
 |some d=>
  have:=hd d rfl
  simp only [Act.put,Option.some.injEq]
  by_cases e:d=t
  ·subst e;simp [Array.getD,this]
  simp only [if_neg e,Array.getD_eq_getD_getElem?,Array.getElem?_setIfInBounds_ne e]
theorem aIP {a:Act} {dst:Option Nat} {v:Value}:(a.put dst v).tmps.size=a.tmps.size:=by
 cases dst<;>simp [Act.put]
theorem aE8 {a:Act} {dst:Option Nat} {v:Value}:(a.put dst v).defers=a.defers:=by
 cases dst<;>simp [Act.put]
theorem St.putReg (H:St C σ a w π ρ S) {dst:Option Nat} (hdst:∀t,dst=some t→t<C.N) {g:G} {v:Value} (hv:aK π ρ E.yv g v) (hm:∀id,g.men id=true→σ.h id ≠ .none) :
  St C (σ.put dst g []) (a.put dst v) w π ρ S where
 size:=aIP.trans H.size
 vals:=fun t=>by
  rw [aIO (by rw [H.size];exact hdst)]
  cases dst with
  |none=>simpa [Sg.put,vO] using H.vals t
  |some d=>
   simp only [Sg.put,vO,Option.some.injEq,upd]
   by_cases e:d=t
   ·subst e;simpa using hv
   simp only [if_neg e,if_neg (Ne.symm e)];exact H.vals t
 defs:=by rw [aE8];exact H.defs
 rel:=H.rel
 trans:=H.trans
 step:=H.step
 wfr:=fun t id hx=>by
  simp only [Sg.put,vO] at hx ⊢
  cases dst with
  |none=>exact H.wfr t id hx
  |some d=>
   simp only [upd] at hx
   split at hx
   ·exact hm id hx
   exact H.wfr t id hx
 wfh:=H.wfh
 wfd:=H.wfd
theorem St.putObj (H:St C σ a w π ρ S) {w':World} {π':PM} {ρ':RM} {S':Nat→Prop} {A':E.α} {h':Nat→Ob} (hR:Rel E π' ρ' h' A' S' w') (hT:cH (Own ρ σ.h S) w π (Own ρ' h' S') w' π')
  (hP:∀j,σ.h j ≠ .none→fL (ρ j) (ρ' j)) (hP2:∀j,j<C.lim→fL (ρ j) (ρ' j)) (hne:∀id,σ.h id ≠ .none→h' id ≠ .none) (hwf:∀j id,(h' j).men id=true→h' id ≠ .none) :
  St C { σ with h:=h',A:=A' } a w' π' ρ' S' where
 size:=H.size
 vals:=fun t=>(H.vals t).mono hT.le fun id hi=>hP id (H.wfr t id hi)
 defs:=H.defs.mono hT.le fun id g hg hi=>hP id (H.wfd g hg id hi)
 rel:=hR
 trans:=H.trans.trans hT
 step:=fun j hj=>(H.step j hj).trans (hP2 j hj)
 wfr:=fun t id hi=>hne id (H.wfr t id hi)
 wfh:=hwf
 wfd:=fun g hg id hi=>hne id (H.wfd g hg id hi)
theorem aHe (h:Nat→Ob) (o:Option (Nat×Ob)):lI h o=cU h o.toList:=by cases o<;>rfl
theorem Lv.wf {h:Nat→Ob} {out:Out} (hl:Lv (fun id=>h id ≠ .none) out) (hwf:∀j id,(h j).men id=true→h id ≠ .none) :
  (∀id,h id ≠ .none→lI h out.put id ≠ .none)∧(∀j id,(lI h out.put j).men id=true→lI h out.put id ≠ .none)∧∀id,out.val.men id=true→lI h out.put id ≠ .none:=by
 obtain ⟨g,put⟩:=out
 cases put with
 |none=>exact ⟨fun _ h=>h,hwf,fun id hm=>(hl.1 id hm).elim (fun h=>h) fun ⟨ob,e⟩=>by cases e⟩
 |some p=>
  obtain ⟨i,ob⟩:=p
  obtain ⟨h1,h2⟩:=hl.2 _ rfl
  have hne:∀id,h id ≠ .none→lI h (some (i,ob)) id ≠ .none:=fun id hi=>aCT h1 (.inl hi)
  refine ⟨hne,fun j id hj=>?_,fun id hm=>?_⟩
  ·simp only [lI,upd] at hj
   split at hj
   ·exact aCT h1 (h2 id hj)
   exact hne id (hwf j id hj)
  exact aCT h1 ((hl.1 id hm).imp (fun h=>h) fun ⟨ob,e⟩=>by cases e;rfl)
theorem St.after (H:St C σ a w π ρ S) {d:Nat} (hd:σ.h d = .none) (hd2:C.lim≤d) {out:Out} {v:Value} {w':World} (hp:kL E π ρ σ.h σ.A S w d out v w') (hl:Lv (fun id=>σ.h id ≠ .none) out) {dst:Option Nat} (hdst:∀t,dst=some t→t<C.N) :
  Holds C (σ.put dst out.val out.put.toList) (a.put dst v) w':=by
 obtain ⟨π',ρ',hv,hR,hT,hP⟩:=hp
 obtain ⟨w1,w2,w3⟩:=hl.wf H.wfh
 have H':=H.putObj hR hT (fun j hj=>(hP j fun e=>hj (e ▸ hd)).1) (fun j hj=>(hP j (by omega)).1) w1 w2
 have H'':=H'.putReg hdst hv w3
 refine ⟨π',ρ',S,?_⟩
 simp only [Sg.put,cU,←aHe] at H'' ⊢
 exact H''
theorem fP (H:St C σ a w π ρ S) (x:Operand):aK π ρ E.yv (gev σ.fr x) (a.eval x):=by
 cases x with
 |tmp t=>exact H.vals t
 |const v=>exact aK.ofV v
 |global g=>simp only [gev,aK]
 |func f=>simp only [gev,aK,aS];exact ⟨[],[],rfl,rfl,rfl⟩
theorem uG (H:St C σ a w π ρ S) (x:Operand) (id:Nat) (hx:(gev σ.fr x).men id=true):σ.h id ≠ .none:=by
 cases x with
 |tmp t=>exact H.wfr t id hx
 |const v=>rw [gev,aGl] at hx;cases hx
 |global g=>simp [gev,G.men] at hx
 |func f=>simp [gev,G.men] at hx
def rhp (h:Nat→Ob) (I:List Nat):Nat→Ob:=fun id=>if id∈I then h id else .none
theorem Rel.restrict {A:E.α} {h:Nat→Ob} (R:Rel E π ρ h A S w) (I:List Nat):Rel E π ρ (rhp h I) A S w where
 know:=R.know
 objs:=fun id=>by
  simp only [rhp]
  split
  ·exact R.objs id
  trivial
 apart:=fun i j b hij hi hj=>by
  simp only [rhp] at hi hj
  split at hi
  ·split at hj
   ·exact R.apart i j b hij hi hj
   simp [bQ] at hj
  simp [bQ] at hi
 sep:=fun i b hi=>by
  simp only [rhp] at hi
  split at hi
  ·exact R.sep i b hi
  simp [bQ] at hi
 res:=R.res
 inb:=R.inb
 gl:=R.gl
theorem kL.frame {A:E.α} {h:Nat→Ob} (R:Rel E π ρ h A S w) {I:List Nat} {d:Nat} (hd:h d = .none) (hdm:∀j,(h j).men d=false) {out:Out} {v:Value} {w':World} (hput:∀p,out.put=some p→p.1∈I)
  (hp:kL E π ρ (rhp h I) A S w d out v w'):kL E π ρ h A S w d out v w':=by
 obtain ⟨π',ρ',hv,hR,hT,hP⟩:=hp
 have hout:∀id,id∉I→id≠d→ρ' id=ρ id:=fun id hi hid=>by
  rcases (hP id hid).2 with e|⟨ob,e⟩
  ·exact e
  exact absurd (hput _ e) hi
 have hputn:∀id,id∉I→lI h out.put id=h id∧lI (rhp h I) out.put id = .none:=fun id hi=>by
  cases ho:out.put with
  |none=>simp [lI,rhp,hi]
  |some p=>
   obtain ⟨i,ob⟩:=p
   have:id≠i:=fun e=>hi (e ▸ hput _ ho)
   simp [lI,upd,this,rhp,hi]
 have hputy:∀id,id∈I→lI h out.put id=lI (rhp h I) out.put id:=fun id hi=>by
  cases ho:out.put with
  |none=>simp [lI,rhp,hi]
  |some p=>simp [lI,upd,rhp,hi]
 have hfr:∀id b,id∉I→bQ ρ id (h id)=some b→b<w.heap.size∧¬Own ρ (rhp h I) S b:=fun id b hi hb=>by
  refine ⟨(R.objs id).lt hb,fun ho=>?_⟩
  rcases ho with ho|⟨j,hj⟩
  ·exact R.sep id b hb ho
  simp only [rhp] at hj
  split at hj
  ·rename_i hjI
   exact R.apart id j b (fun e=>hi (e ▸ hjI)) hb hj
  simp [bQ] at hj
 have hlive:∀id,id∉I→bQ ρ' id (h id)=bQ ρ id (h id):=fun id hi=>by
  by_cases e:id=d
  ·subst e;rw [hd];rfl
  have:=hout id hi e
  cases h id<;>simp [bQ,this]
 have hfresh:∀j b id,j∈I→id∉I→bQ ρ' j (lI (rhp h I) out.put j)=some b→bQ ρ id (h id)≠some b:=fun j b id hj hi hb hid=>by
  obtain ⟨h1,h2⟩:=hfr id b hi hid
  rcases hT.own b (.inr ⟨j,hb⟩) with h3|h3
  ·exact h2 h3
  omega
 refine ⟨π',ρ',hv,⟨hR.know,fun id=>?_,fun i j b hij hi hj=>?_,fun i b hi=>?_,hR.res,hR.inb,hR.gl⟩,⟨hT.size,hT.os,hT.tape,hT.output,fun b hb hn=>?_,hT.le,fun b hb=>?_⟩,hP⟩
 ·by_cases hi:id∈I
  ·rw [hputy id hi];exact hR.objs id
  rw [(hputn id hi).1]
  by_cases e:id=d
  ·subst e;rw [hd];trivial
  refine (R.objs id).keep hT.le (hout id hi e) (fun i hm=>?_) fun b hb=>?_
  ·by_cases e':i=d
   ·subst e';rw [hdm id] at hm;cases hm
   exact (hP i e').1
  obtain ⟨h1,h2⟩:=hfr id b hi hb
  exact hT.keep b h1 h2
 ·by_cases hiI:i∈I
  ·rw [hputy i hiI] at hi
   by_cases hjI:j∈I
   ·rw [hputy j hjI] at hj
    exact hR.apart i j b hij hi hj
   rw [(hputn j hjI).1,hlive j hjI] at hj
   exact hfresh i b j hiI hjI hi hj
  rw [(hputn i hiI).1,hlive i hiI] at hi
  by_cases hjI:j∈I
  ·rw [hputy j hjI] at hj
   exact hfresh j b i hjI hiI hj hi
  rw [(hputn j hjI).1,hlive j hjI] at hj
  exact R.apart i j b hij hi hj
 ·by_cases hiI:i∈I
  ·rw [hputy i hiI] at hi
   exact hR.sep i b hi
  rw [(hputn i hiI).1,hlive i hiI] at hi
  exact R.sep i b hi
 ·refine hT.keep b hb fun ho=>hn ?_
  rcases ho with ho|⟨j,hj⟩
  ·exact .inl ho
  simp only [rhp] at hj
  split at hj
  ·exact .inr ⟨j,hj⟩
  simp [bQ] at hj
 have key:Own ρ' (lI (rhp h I) out.put) S b∨∃id,id∉I∧bQ ρ id (h id)=some b:=by
  rcases hb with hb|⟨j,hj⟩
  ·exact .inl (.inl hb)
  by_cases hjI:j∈I
  ·rw [hputy j hjI] at hj;exact .inl (.inr ⟨j,hj⟩)
  rw [(hputn j hjI).1,hlive j hjI] at hj;exact .inr ⟨j,hjI,hj⟩
 rcases key with k|⟨id,_,k⟩
 ·rcases hT.own b k with k'|k'
  ·left
   rcases k' with k'|⟨j,hj⟩
   ·exact .inl k'
   simp only [rhp] at hj
   split at hj
   ·exact .inr ⟨j,hj⟩
   simp [bQ] at hj
  exact .inr k'
 exact .inl (.inr ⟨id,k⟩)
end
section
open Go.RowKit
variable {Pg:Program} [Kn Pg] {E:Env Pg} {C:Cx E} {σ:Sg E} {a:Act} {w:World} {π:PM} {ρ:RM} {S:Nat→Prop}
theorem vP {ev ev':Operand→G} {l:List Operand} (h:∀x∈l,ev x=ev' x):l.map ev=l.map ev':=List.map_congr_left h
theorem aE9 {mu:Bool} {d:Nat} {ev ev':Operand→G} {h:Nat→Ob} {op:Op} (he:∀x∈op.operands.toList,ev x=ev' x):cZ Pg mu d ev h op=cZ Pg mu d ev' h op:=by
 cases op<;>simp only [cZ]
 case build t ps=>
  have:(ps.toList.map fun q=>(q.1,ev q.2))=ps.toList.map fun q=>(q.1,ev' q.2):=List.map_congr_left fun q hq=>by
   rw [he q.2 (by simp only [Op.operands];exact List.mem_map.2 ⟨q,hq,rfl⟩)]
  rw [this]
 case buildSlice t n ps=>
  have:(ps.toList.map fun q=>ev q.2)=ps.toList.map fun q=>ev' q.2:=List.map_congr_left fun q hq=>by
   rw [he q.2 (by simp only [Op.operands];exact List.mem_map.2 ⟨q,hq,rfl⟩)]
  rw [this]
 case makeFunc f as bs=>
  rw [vP (l:=as.toList) fun x hx=>he x (by simp only [Op.operands,Array.toList_append,List.mem_append];exact .inl hx),
   vP (l:=bs.toList) fun x hx=>he x (by simp only [Op.operands,Array.toList_append,List.mem_append];exact .inr hx)]
 case slice t x lo hi mx=>
  have h1:=he x (by simp [Op.operands])
  have h2:lo.map ev=lo.map ev':=by cases lo with
   |none=>rfl
   |some y=>simp only [Option.map_some];rw [he y (by simp [Op.operands])]
  have h3:hi.map ev=hi.map ev':=by cases hi with
   |none=>rfl
   |some y=>simp only [Option.map_some];rw [he y (by simp [Op.operands])]
  rw [h1,h2,h3]
 case call cl=>
  obtain ⟨callee,args,ats⟩:=cl
  have hall:∀x∈args.toList,ev x=ev' x:=fun x hx=>he x (by
   cases callee<;>simp [Op.operands,Call.operands,Array.mem_toList_iff] at hx ⊢<;>simp [hx])
  rw [vP hall]
  cases callee with
  |builtin b=>
   cases b<;>simp only
   case len=>
    generalize args.toList=l at hall
    generalize ats.toList=m
    rcases l with _|⟨x,_|⟨y,l⟩⟩<;>rcases m with _|⟨t,_|⟨t',m⟩⟩<;>try rfl
    have:=hall x (by simp)
    simp only [this]
   case append=>
    generalize args.toList=l at hall
    generalize ats.toList=m
    rcases l with _|⟨x,_|⟨y,_|⟨z,l⟩⟩⟩<;>rcases m with _|⟨t,_|⟨t',_|⟨t'',m⟩⟩⟩<;>try rfl
    have h1:=hall x (by simp)
    have h2:=hall y (by simp)
    simp only [h1,h2]
  |_=>rfl
 all_goals first
  |rfl
  |(
    simp only [Op.operands,List.mem_cons,List.not_mem_nil,or_false,forall_eq_or_imp,forall_eq] at he
    try rw [he.1]
    try rw [he.2.1]
    try rw [he.2.2]
    try rw [he.2]
    try rw [he])
mutual
def G.idl:G→List Nat
 |.agg cs=>G.idls cs
 |.tuple cs=>G.idls cs
 |.fn _ a b=>G.idls a++G.idls b
 |.iface _ x=>G.idl x
 |.ptr cs=>G.idls cs
 |.ref i _=>[i]
 |.own i _=>[i]
 |.aref i _ _=>[i]
 |.fsl i _ _=>[i]
 |.map i=>[i]
 |_=>[]
def G.idls:List G→List Nat
 |[]=>[]
 |g::gs=>G.idl g++G.idls gs
end
structure aB8 (ops:Array Oper) (o:Oper) (I:List Nat) (σ σ':Sg E):Prop where
 A:σ'.A=σ.A
 df:σ'.df=σ.df
 fr:∀t∈o.looksAt ops,σ'.fr t=σ.fr t
 h:∀id∈I,σ'.h id=σ.h id
def wpO (r:Option Nat) (Pg:Program) (ops:Array Oper) (Q:Exit→Act→World→Prop) (o:Oper) (K:Act→World→Prop) (a:Act) (w:World):Prop:=
 if Region.wanted o (yielded ops a.tmps) then o.wpIn (MF Pg r) 0 Pg a w K Q else (∀f,o.about Pg w a.eval=some f→(MF Pg r).fn f)∧K (a.put o.dst undef) w
def Eff (C:Cx E) (r:Option Nat) (ops:Array Oper) (o:Oper) (σ:Sg E) (I:List Nat) (g:G) (ps:List (Nat×Ob)):Prop:=
 ∀σ',aB8 ops o I σ σ'→∀a w,Holds C σ' a w→∀(K:Act→World→Prop) Q,(∀a' w',Holds C (σ'.put o.dst g ps) a' w'→K a' w')→wpO r Pg ops Q o K a w
theorem nY {ops:Array Oper} {o:Oper} {I:List Nat} {σ σ':Sg E} (h:aB8 ops o I σ σ'):∀x∈o.op.operands.toList,gev σ'.fr x=gev σ.fr x:=fun x hx=>by
 cases x with
 |tmp t=>exact h.fr t (List.mem_append_left _ (List.mem_filterMap.2 ⟨.tmp t,hx,rfl⟩))
 |_=>rfl
def dO (ops:Array Oper) (fr:Nat→G) (o:Oper):Option Bool:=
 match o.guard with
 |none=>some true
 |some (j,b)=>match (ops[j]?).bind (·.dst) with
  |some t=>match fr t with
   |.p (.bool x)=>some (x==b)
   |.p (.tuple [])=>some false
   |_=>none
  |none=>none
theorem fQ {ops:Array Oper} {o:Oper} (H:St C σ a w π ρ S) {b:Bool} (hw:dO ops σ.fr o=some b):Region.wanted o (yielded ops a.tmps)=b:=by
 unfold dO at hw
 unfold Region.wanted
 split at hw
 ·rename_i hg
  simp only [hg,Option.some.injEq] at hw ⊢;exact hw
 rename_i j c hg
 simp only [hg]
 split at hw
 ·rename_i t ht
  have hv:=H.vals t
  have hy:yielded ops a.tmps j=(match a.tmps.getD t undef with|.bool b=>some b|_=>none):=by
   unfold yielded
   rw [ht]
   simp only [Option.bind_some,Array.getD_eq_getD_getElem?]
   cases a.tmps[t]? with
   |none=>rfl
   |some u=>cases u<;>rfl
  rw [hy]
  split at hw
  ·rename_i x hx
   rw [hx] at hv
   simp only [aK,aS] at hv
   rw [hv]
   simp only [Option.some.injEq] at hw
   subst hw
   cases x<;>cases c<;>rfl
  ·rename_i hx
   rw [hx] at hv
   simp only [aK,aS,aU] at hv
   obtain ⟨vs,hv,rfl⟩:=hv
   rw [hv]
   simp only [Option.some.injEq] at hw
   subst hw
   rfl
  cases hw
 cases hw
theorem kW {ops:Array Oper} {o:Oper} {I:List Nat} {σ σ':Sg E} (h:aB8 ops o I σ σ'):dO ops σ'.fr o=dO ops σ.fr o:=by
 unfold dO
 cases hg:o.guard with
 |none=>rfl
 |some q=>
  obtain ⟨j,b⟩:=q
  simp only
  cases ht:(ops[j]?).bind (·.dst) with
  |none=>rfl
  |some t=>
   simp only
   rw [h.fr t (List.mem_append_right _ (by simp [hg,ht]))]
theorem kX {o:Oper} {ev:Operand→Value} (h:∀cl,o.op ≠ .call cl):o.about Pg w ev=none:=by
 unfold Oper.about
 split
 ·rename_i cl hc;exact absurd hc (h cl)
 rfl
theorem uW {o:Oper} {ev:Operand→Value} {cl:Call} {b:Builtin} (h:o.op = .call cl) (hb:cl.callee = .builtin b):o.about Pg w ev=none:=by
 unfold Oper.about
 rw [h]
 simp only
 obtain ⟨callee,args,ats⟩:=cl
 simp only at hb
 subst hb
 simp [resolve,Target.leads]
theorem aAP {o:Oper} {ev:Operand→Value} {mu:Bool} {d:Nat} {eg:Operand→G} {h:Nat→Ob} {x:Prop×Out} (hg:cZ Pg mu d eg h o.op=some x):o.about Pg w ev=none:=by
 cases hop:o.op with
 |call cl=>
  rw [hop] at hg
  simp only [cZ] at hg
  split at hg
  ·rename_i b hb;exact uW hop hb
  cases hg
 |_=>exact kX fun cl=>by rw [hop];simp
def zN (ev:Operand→G) (op:Op):List Nat:=op.operands.toList.flatMap fun x=>(ev x).idl
theorem aCU {r:Option Nat} {ops:Array Oper} {o:Oper} {mu:Bool} {d:Nat} {I:List Nat} {c:Prop} {out:Out} (hw:dO ops σ.fr o=some true)
  (hg:cZ Pg mu d (gev σ.fr) (rhp σ.h I) o.op=some (c,out)) (hc:c) (hd:σ.h d = .none) (hd2:C.lim≤d) (hI:∀p,out.put=some p→p.1∈d::I) (hdst:∀t,o.dst=some t→t<C.N) :
  Eff C r ops o σ (d::I) out.val out.put.toList:=by
 intro σ' hA a w ⟨π,ρ,S,H⟩ K Q hK
 have hwt:=fQ H ((kW hA).trans hw)
 unfold wpO
 rw [hwt]
 simp only [if_true]
 refine ⟨fun f' hf'=>(by rw [aAP hg] at hf';cases hf'),?_⟩
 have hI':rhp σ.h I=rhp σ'.h I:=funext fun id=>by
  simp only [rhp]
  split
  ·rename_i hi;exact (hA.h id (by simp [hi])).symm
  rfl
 have hd':σ'.h d = .none:=(hA.h d (by simp)).trans hd
 have hg':cZ Pg mu d (gev σ'.fr) (rhp σ'.h I) o.op=some (c,out):=by
  rw [←hI',aE9 (nY hA)];exact hg
 have hdm:∀j,(σ'.h j).men d=false:=fun j=>by
  cases hm:(σ'.h j).men d with
  |false=>rfl
  |true=>exact absurd hd' (H.wfh j d hm)
 have hdI:rhp σ'.h (d::I) d = .none:=by simp [rhp,hd']
 have hRR:rhp σ'.h I=rhp σ'.h (d::I):=funext fun id=>by
  simp only [rhp,List.mem_cons]
  by_cases e:id=d
  ·subst e;simp [hd']
  simp [e]
 rw [hRR] at hg'
 have hy:=aGm (h:=rhp σ'.h (d::I)) (dst:=o.dst) (ty:=o.type) (pos:=o.pos) (after:=o.after) (guard:=o.guard) (H.rel.restrict (d::I)) (fP H) hdI
  (fun j=>by
   simp only [rhp]
   split
   ·exact hdm j
   rfl)
  (fun x=>by
   cases hm:(gev σ'.fr x).men d with
   |false=>rfl
   |true=>exact absurd hd' (uG H x d hm)) hg' hc
 obtain ⟨nx,w',v,hrun,hnx,hp⟩:=hy
 have hp':=kL.frame H.rel hd' hdm hI hp
 have hlv:Lv (fun id=>σ'.h id ≠ .none) out:=aGq (L:=fun id=>σ'.h id ≠ .none) (fun j id hj=>by
  simp only [rhp] at hj
  split at hj
  ·exact H.wfh j id hj
  simp [Ob.men] at hj) (uG H) hg'
 have hfin:=hK _ _ (H.after hd' hd2 hp' hlv hdst)
 have hsem:Oper.semAt (MF Pg r).round a.eval o=execOp a.eval o:=by
  cases r with
  |none=>rfl
  |some l=>exact Oper.semAt_some l _ _ fun cl hcl=>by rw [hcl] at hg';simp [cZ] at hg'
 rw [hsem]
 have:execOp a.eval o=execOp a.eval ⟨o.dst,o.op,o.type,o.pos,o.after,o.guard⟩:=rfl
 rw [this,hrun]
 rcases hnx with rfl|⟨rfl,rfl⟩
 ·exact hfin
 exact hfin
end
section
open Go.RowKit
variable {Pg:Program} [Kn Pg] {E:Env Pg} {C:Cx E} {σ:Sg E} {a:Act} {w:World} {π:PM} {ρ:RM} {S:Nat→Prop}
theorem aHf {π:PM} {ρ:RM} {y:Value}:aK π ρ y (.p (.tuple [])) undef:=by
 simp only [aK,aS,aU];exact ⟨[],rfl,rfl⟩
theorem aIQ {r:Option Nat} {ops:Array Oper} {o:Oper} (hw:dO ops σ.fr o=some false) (hdst:∀t,o.dst=some t→t<C.N):Eff C r ops o σ [] (.p (.tuple [])) []:=by
 intro σ' hA a w ⟨π,ρ,S,H⟩ K Q hK
 have hwt:=fQ H ((kW hA).trans hw)
 unfold wpO
 rw [hwt]
 simp only [Bool.false_eq_true,if_false]
 exact ⟨fun _ _=>trivial,hK _ _ ⟨π,ρ,S,H.putReg hdst aHf fun id hx=>by simp [G.men] at hx⟩⟩
theorem aAQ {h h':Nat→Ob}:∀ {ps:List (Nat×Ob)} {id:Nat},h id=h' id→cU h ps id=cU h' ps id
 |[],_,e=>e
 |(i,ob)::ps,id,e=>aAQ (ps:=ps) (by simp only [upd];split<;>first|rfl|exact e)
theorem qA {h:Nat→Ob}:∀ {ps:List (Nat×Ob)} {id:Nat},(∀p∈ps,p.1≠id)→cU h ps id=h id
 |[],_,_=>rfl
 |(i,ob)::ps,id,hn=>by
  rw [cU,qA fun p hp=>hn p (by simp [hp])]
  exact aZ h ob (Ne.symm (hn (i,ob) (by simp)))
theorem aB9 {h:Nat→Ob} {i:Nat} {ob:Ob}:∀ {ps:List (Nat×Ob)},(∀p∈ps,p.1≠i)→cU (upd h i ob) ps=upd (cU h ps) i ob
 |[],_=>rfl
 |(k,o2)::ps,hn=>by
  have hk:k≠i:=hn (k,o2) (by simp)
  have:upd (upd h i ob) k o2=upd (upd h k o2) i ob:=funext fun x=>by
   simp only [upd]
   by_cases e:x=k
   ·subst e;simp [hk]
   simp [e]
  rw [cU,this,aB9 fun p hp=>hn p (by simp [hp])]
  rfl
theorem aAR {h:Nat→Ob} {qs:List (Nat×Ob)}:∀ {ps:List (Nat×Ob)},(∀p∈ps,∀q∈qs,p.1≠q.1)→cU (cU h ps) qs=cU (cU h qs) ps
 |[],_=>rfl
 |(i,ob)::ps,hn=>by
  rw [cU,aAR fun p hp=>hn p (by simp [hp]),aB9 fun q hq=>Ne.symm (hn (i,ob) (by simp) q hq)]
  rfl
theorem wJ {f:Nat→G} {dst:Option Nat} {g:G} {t:Nat} (h:dst≠some t):vO f dst g t=f t:=by
 cases dst with
 |none=>rfl
 |some d=>exact aZ f g fun e=>h (by rw [e])
theorem aCa {f f':Nat→G} {dst:Option Nat} {g:G} {t:Nat} (h:f t=f' t):vO f dst g t=vO f' dst g t:=by
 cases dst with
 |none=>exact h
 |some d=>simp only [vO,upd];split<;>first|rfl|exact h
theorem aHg {f:Nat→G} {d e:Option Nat} {g g':G} (h:∀t,d=some t→e≠some t):vO (vO f d g) e g'=vO (vO f e g') d g:=by
 cases d with
 |none=>rfl
 |some t=>
  cases e with
  |none=>rfl
  |some u=>
   have hut:u≠t:=fun x=>h t rfl (by rw [x])
   funext x
   simp only [vO,upd]
   by_cases e1:x=u
   ·subst e1;simp [hut]
   simp [e1]
structure Rec where
 dst:Option Nat
 g:G
 ps:List (Nat×Ob)
 I:List Nat
def cD (R:Nat→Rec) (lo:Nat) (σ:Sg E) (X:Nat→Bool):Nat→Sg E
 |0=>σ
 |m+1=>if X (lo+m) then (cD R lo σ X m).put (R (lo+m)).dst (R (lo+m)).g (R (lo+m)).ps else cD R lo σ X m
structure aFa (ops:Array Oper) (R:Nat→Rec) (i j:Nat):Prop where
 r1:∀oj,ops[j]? = some oj→∀t∈oj.looksAt ops,(R i).dst≠some t
 r2:∀oi,ops[i]? = some oi→∀t∈oi.looksAt ops,(R j).dst≠some t
 r3:∀t,(R i).dst=some t→(R j).dst≠some t
 o1:∀p∈(R i).ps,p.1∉(R j).I
 o2:∀p∈(R j).ps,p.1∉(R i).I
 o3:∀p∈(R i).ps,∀q∈(R j).ps,p.1≠q.1
section
variable {R:Nat→Rec} {lo:Nat} {X:Nat→Bool} {ops:Array Oper}
theorem jV:∀m,(cD R lo σ X m).A=σ.A∧(cD R lo σ X m).df=σ.df
 |0=>⟨rfl,rfl⟩
 |m+1=>by
  have ih:=jV m
  simp only [cD]
  split<;>exact ih
theorem aAS {q t:Nat} (hX:X (lo+q)=false) (h1:∀m,m<q→X (lo+m)=false→(R (lo+m)).dst≠some t):∀m,(∀k,q<k→k<m→X (lo+k)=true→(R (lo+k)).dst≠some t) →
  (cD R lo σ X m).fr t=(cD R lo σ (fun _=>true) (min m q)).fr t
 |0,_=>by simp [cD]
 |m+1,h2=>by
  have ih:=aAS hX h1 m fun k hk hkm=>h2 k hk (by omega)
  simp only [cD]
  by_cases hm:m<q
  ·have e:min (m+1) q=min m q+1:=by omega
   have e2:min m q=m:=by omega
   rw [e,cD,e2]
   simp only [if_true]
   rw [e2] at ih
   split
   ·exact aCa ih
   rename_i hn
   rw [ih]
   exact (wJ (h1 m hm (by simpa using hn))).symm
  have e:min (m+1) q=min m q:=by omega
  rw [e]
  by_cases hq:m=q
  ·subst hq;rw [if_neg (by simp [hX])];exact ih
  split
  ·rename_i hx
   rw [←ih]
   exact wJ (h2 m (by omega) (by omega) hx)
  exact ih
theorem aCV {q id:Nat} (hX:X (lo+q)=false) (h1:∀m,m<q→X (lo+m)=false→∀p∈(R (lo+m)).ps,p.1≠id):∀m,(∀k,q<k→k<m→X (lo+k)=true→∀p∈(R (lo+k)).ps,p.1≠id) →
  (cD R lo σ X m).h id=(cD R lo σ (fun _=>true) (min m q)).h id
 |0,_=>by simp [cD]
 |m+1,h2=>by
  have ih:=aCV hX h1 m fun k hk hkm=>h2 k hk (by omega)
  simp only [cD]
  by_cases hm:m<q
  ·have e:min (m+1) q=min m q+1:=by omega
   have e2:min m q=m:=by omega
   rw [e,cD,e2]
   simp only [if_true]
   rw [e2] at ih
   split
   ·exact aAQ ih
   rename_i hn
   rw [ih]
   exact (qA (h1 m hm (by simpa using hn))).symm
  have e:min (m+1) q=min m q:=by omega
  rw [e]
  by_cases hq:m=q
  ·subst hq;rw [if_neg (by simp [hX])];exact ih
  split
  ·rename_i hx
   rw [←ih]
   exact qA (h2 m (by omega) (by omega) hx)
  exact ih
theorem Sg.put_comm {d e:Option Nat} {g g':G} {ps qs:List (Nat×Ob)} (h:∀t,d=some t→e≠some t) (hp:∀p∈ps,∀q∈qs,p.1≠q.1):(σ.put d g ps).put e g' qs=(σ.put e g' qs).put d g ps:=by
 simp only [Sg.put,aHg h,aAR hp]
theorem vQ {X':Nat→Bool} {q:Nat} (hX:X (lo+q)=false) (hX':X' (lo+q)=true) (hsame:∀m,m≠q→X' (lo+m)=X (lo+m)):∀m,(∀k,q<k→k<m→X (lo+k)=true→aFa ops R (lo+q) (lo+k)) →
  (m≤q→cD R lo σ X' m=cD R lo σ X m)∧(q<m→cD R lo σ X' m=(cD R lo σ X m).put (R (lo+q)).dst (R (lo+q)).g (R (lo+q)).ps)
 |0,_=>⟨fun _=>rfl,fun h=>absurd h (by omega)⟩
 |m+1,hf=>by
  obtain ⟨i1,i2⟩:=vQ hX hX' hsame m fun k hk hkm=>hf k hk (by omega)
  refine ⟨fun hm=>?_,fun hm=>?_⟩
  ·simp only [cD,hsame m (by omega),i1 (by omega)]
  by_cases e:m=q
  ·subst e
   simp only [cD,hX,hX',if_true,Bool.false_eq_true,if_false,i1 (Nat.le_refl _)]
  simp only [cD,hsame m e,i2 (by omega)]
  split
  ·rename_i hx
   have hfr:=hf m (by omega) (by omega) hx
   exact (Sg.put_comm (fun t ht=>hfr.r3 t ht) hfr.o3)
  rfl
end
def cnt (X:Nat→Bool) (lo:Nat):Nat→Nat
 |0=>0
 |m+1=>cnt X lo m+if X (lo+m) then 0 else 1
theorem aCW {X X':Nat→Bool} {lo q:Nat} (hX:X (lo+q)=false) (hX':X' (lo+q)=true) (hsame:∀m,m≠q→X' (lo+m)=X (lo+m)):∀m,(m≤q→cnt X' lo m=cnt X lo m)∧(q<m→cnt X' lo m+1=cnt X lo m)
 |0=>⟨fun _=>rfl,fun h=>absurd h (by omega)⟩
 |m+1=>by
  obtain ⟨i1,i2⟩:=aCW hX hX' hsame m
  refine ⟨fun hm=>?_,fun hm=>?_⟩
  ·simp only [cnt,hsame m (by omega),i1 (by omega)]
  by_cases e:m=q
  ·subst e
   simp only [cnt,hX,hX',if_true,Bool.false_eq_true,if_false,i1 (Nat.le_refl _),Nat.add_zero]
  simp only [cnt,hsame m e]
  have:=i2 (by omega)
  omega
theorem wL {X:Nat→Bool} {lo:Nat}:∀ {m},cnt X lo m=0→∀k,k<m→X (lo+k)=true
 |0,_,k,hk=>absurd hk (by omega)
 |m+1,h,k,hk=>by
  simp only [cnt] at h
  by_cases e:k=m
  ·subst e
   cases hx:X (lo+k) with
   |true=>rfl
   |false=>rw [hx] at h;simp at h
  exact wL (X:=X) (m:=m) (by omega) k (by omega)
theorem xY {X:Nat→Bool} {lo:Nat}:∀ {m},cnt X lo m≠0→∃k,k<m∧X (lo+k)=false∧∀j,j<k→X (lo+j)=true
 |0,h=>absurd rfl h
 |m+1,h=>by
  by_cases h0:cnt X lo m=0
  ·simp only [cnt,h0,Nat.zero_add,ne_eq] at h
   refine ⟨m,by omega,?_,fun j hj=>wL h0 j hj⟩
   cases hx:X (lo+m) with
   |true=>rw [hx] at h;simp at h
   |false=>rfl
  obtain ⟨k,h1,h2,h3⟩:=xY h0
  exact ⟨k,by omega,h2,h3⟩
abbrev lst (listed:Array Bool):Nat→Bool:=fun k=>listed.getD k true
def aPy (ops:Array Oper) (lo:Nat) (listed:Array Bool):Prop:=listed.size=ops.size∧∀k,k<ops.size→lst listed k=decide (k<lo)
structure qB (C:Cx E) (r:Option Nat) (ops:Array Oper) (Q:Exit→Act→World→Prop) (lo:Nat) (σ:Sg E):Prop where
 run:∀listed a w,aPy ops lo listed→Holds C σ a w→wpAnyIn (MF Pg r) 0 Pg .any ops Q (ops.size - lo) listed a w
structure aAT (ops:Array Oper) (B:Nat→Nat→Prop):Prop where
 low:∀j o,ops[j]? = some o→∀e∈o.after,Region.binds .any e=true→e.on<j
 up:∀i j,B i j→∃o,ops[j]? = some o∧∃e∈o.after,Region.binds .any e=true∧(e.on=i∨B i e.on)
theorem aAU {listed:Array Bool} {i k:Nat} (hi:i<listed.size):(listed.setIfInBounds i true).getD k true=if k=i then true else listed.getD k true:=by
 by_cases e:k=i
 ·subst e;simp [Array.getD_eq_getD_getElem?,hi]
 simp [Array.getD_eq_getD_getElem?,Array.getElem?_setIfInBounds_ne (Ne.symm e),e]
theorem aIR {r:Option Nat} {ops:Array Oper} {Q:Exit→Act→World→Prop} {lo len:Nat} {R:Nat→Rec} {B:Nat→Nat→Prop} (hlen:lo+len≤ops.size) (hB:aAT ops B)
  (hcut:∀j,lo+len≤j→j<ops.size→∀k,k<len→B (lo+k) j)
  (hfree:∀i j,i<j→j<len→B (lo+i) (lo+j)∨aFa ops R (lo+i) (lo+j))
  (hrun:∀m,m<len→∃o,ops[lo+m]? = some o∧(R (lo+m)).dst=o.dst∧Eff C r ops o (cD R lo σ (fun _=>true) m) (R (lo+m)).I (R (lo+m)).g (R (lo+m)).ps)
  (hK:qB C r ops Q (lo+len) (cD R lo σ (fun _=>true) len)):qB C r ops Q lo σ:=by
 have main:∀(c:Nat) (listed:Array Bool) (a:Act) (w:World),listed.size=ops.size→cnt (lst listed) lo len=c→(∀k,k<lo→lst listed k=true)→(∀k,lo+len≤k→k<ops.size→lst listed k=false) →
   (∀j o,ops[j]? = some o→lo≤j→j<lo+len→lst listed j=true→∀e∈o.after,Region.binds .any e=true→lst listed e.on=true) →
   Holds C (cD R lo σ (lst listed) len) a w→wpAnyIn (MF Pg r) 0 Pg .any ops Q (ops.size - (lo+len)+c) listed a w:=by
  intro c
  induction c with
  |zero=>
   intro listed a w hsz hc hlow hhi hdc H
   have hall:=wL hc
   have hst:∀m,m≤len→cD R lo σ (lst listed) m=cD R lo σ (fun _=>true) m:=fun m=>by
    induction m with
    |zero=>intro _;rfl
    |succ m ih=>
     intro hm
     simp only [cD,hall m (by omega),ih (by omega)]
   rw [hst len (Nat.le_refl _)] at H
   refine hK.run listed a w ⟨hsz,fun k hk=>?_⟩ H
   by_cases h1:k<lo
   ·rw [hlow k h1];simp;omega
   by_cases h2:k<lo+len
   ·have:=hall (k - lo) (by omega)
    rw [show lo+(k - lo)=k by omega] at this
    rw [this];simp [h2]
   rw [hhi k (by omega) hk];simp [h2]
  |succ c ih=>
   intro listed a w hsz hc hlow hhi hdc H
   have hB':∀j,(∀o,ops[j]? = some o→∀e∈o.after,Region.binds .any e=true→lst listed e.on=true)→∀i,lo≤i→B i j→lst listed i=true:=by
    intro j
    induction j using Nat.strongRecOn with
    |_ j ihj=>
     intro hj i hi hb
     obtain ⟨o,ho,e,he,hbe,hcase⟩:=hB.up i j hb
     have hon:=hj o ho e he hbe
     rcases hcase with rfl|hb'
     ·exact hon
     have hlt:=hB.low j o ho e he hbe
     refine ihj e.on hlt (fun o' ho' e' he' hbe'=>?_) i hi hb'
     by_cases h1:e.on<lo
     ·have:=hB.low _ _ ho' _ he' hbe'
      exact hlow _ (by omega)
     by_cases h2:e.on<lo+len
     ·exact hdc _ _ ho' (by omega) h2 hon _ he' hbe'
     have hlt2:e.on<ops.size:=(Array.getElem?_eq_some_iff.1 ho').1
     rw [hhi _ (by omega) hlt2] at hon;cases hon
   obtain ⟨q0,hq0,hx0,hfirst⟩:=xY (X:=lst listed) (lo:=lo) (m:=len) (by omega)
   have hne:Region.ready .any ops listed≠[]:=by
    intro hnil
    have hmem:lo+q0∈Region.ready .any ops listed:=by
     obtain ⟨o,ho⟩:∃o,ops[lo+q0]? = some o:=⟨ops[lo+q0],by rw [Array.getElem?_eq_getElem]⟩
     refine mem_ready.2 ⟨hx0,o,ho,fun e he hbe=>?_⟩
     have hlt:=hB.low _ _ ho e he hbe
     have hl:lst listed e.on=true:=by
      by_cases h1:e.on<lo
      ·exact hlow _ h1
      have:=hfirst (e.on - lo) (by omega)
      rwa [show lo+(e.on - lo)=e.on by omega] at this
     have hsz':e.on<listed.size:=by omega
     simp only [lst,Array.getD_eq_getD_getElem?,Array.getElem?_eq_getElem hsz',Option.getD_some] at hl ⊢
     exact hl
    rw [hnil] at hmem;cases hmem
   rw [show ops.size - (lo+len)+(c+1)=(ops.size - (lo+len)+c)+1 by omega]
   refine ⟨fun h0=>absurd h0 hne,fun i hi=>?_⟩
   obtain ⟨hun,o,ho,hall⟩:=mem_ready.1 hi
   have hilt:i<ops.size:=(Array.getElem?_eq_some_iff.1 ho).1
   have hallt:∀e∈o.after,Region.binds .any e=true→lst listed e.on=true:=fun e he hbe=>by
    have h1:=hall e he hbe
    have hlt:=hB.low _ _ ho e he hbe
    have hsz':e.on<listed.size:=by omega
    simp only [lst,Array.getD_eq_getD_getElem?,Array.getElem?_eq_getElem hsz',Option.getD_some] at h1 ⊢
    exact h1
   have hilo:lo≤i:=by
    apply Nat.le_of_not_lt;intro h1
    rw [show listed.getD i true=lst listed i from rfl,hlow i h1] at hun;cases hun
   have hihi:i<lo+len:=by
    apply Nat.lt_of_not_le;intro h1
    have:=hB' i (fun o' ho'=>by rw [ho] at ho';cases ho';exact hallt) (lo+q0) (by omega) (hcut i h1 hilt q0 hq0)
    rw [hx0] at this;cases this
   obtain ⟨q,rfl⟩:∃q,i=lo+q:=⟨i - lo,by omega⟩
   have hqlen:q<len:=by omega
   have hXq:lst listed (lo+q)=false:=hun
   have fr1:∀m,m<q→lst listed (lo+m)=false→aFa ops R (lo+m) (lo+q):=fun m hm hx=>by
    rcases hfree m q hm hqlen with hb|hf
    ·have:=hB' (lo+q) (fun o' ho'=>by rw [ho] at ho';cases ho';exact hallt) (lo+m) (by omega) hb
     rw [hx] at this;cases this
    exact hf
   have fr2:∀k,q<k→k<len→lst listed (lo+k)=true→aFa ops R (lo+q) (lo+k):=fun k hk hkl hx=>by
    rcases hfree q k hk hkl with hb|hf
    ·have:=hB' (lo+k) (fun o' ho'=>hdc _ o' ho' (by omega) (by omega) hx) (lo+q) (by omega) hb
     rw [hXq] at this;cases this
    exact hf
   obtain ⟨o',ho',hdst,heff⟩:=hrun q hqlen
   rw [ho] at ho';cases ho'
   have hmin:min len q=q:=by omega
   have hag:aB8 ops o (R (lo+q)).I (cD R lo σ (fun _=>true) q) (cD R lo σ (lst listed) len):=by
    refine ⟨by rw [(jV len).1,(jV q).1],by rw [(jV len).2,(jV q).2],fun t ht=>?_,fun id hid=>?_⟩
    ·have:=aAS (R:=R) (σ:=σ) (t:=t) hXq (fun m hm hx=>(fr1 m hm hx).r1 o ho t ht) len (fun k hk hkl hx=>(fr2 k hk hkl hx).r2 o ho t ht)
     rwa [hmin] at this
    have:=aCV (R:=R) (σ:=σ) (id:=id) hXq (fun m hm hx p hp e=>(fr1 m hm hx).o1 p hp (e ▸ hid)) len (fun k hk hkl hx p hp e=>(fr2 k hk hkl hx).o2 p hp (e ▸ hid))
    rwa [hmin] at this
   have hw:=heff _ hag a w H (wpAnyIn (MF Pg r) 0 Pg .any ops Q (ops.size - (lo+len)+c) (listed.setIfInBounds (lo+q) true)) Q fun a' w' H'=>?_
   ·unfold wpOpIn
    rw [ho]
    exact hw
   have hsz2:lo+q<listed.size:=by omega
   have hl':∀k,lst (listed.setIfInBounds (lo+q) true) k=if k=lo+q then true else lst listed k:=fun k=>aAU hsz2
   have hX':lst (listed.setIfInBounds (lo+q) true) (lo+q)=true:=by rw [hl'];simp
   have hsame:∀m,m≠q→lst (listed.setIfInBounds (lo+q) true) (lo+m)=lst listed (lo+m):=fun m hm=>by
    rw [hl',if_neg (by omega)]
   refine ih _ a' w' (by simpa using hsz) ?_ (fun k hk=>?_) (fun k hk hk2=>?_) (fun j oj hoj h1 h2 hx e he hbe=>?_) ?_
   ·have:=(aCW hXq hX' hsame len).2 hqlen
    omega
   ·rw [hl',if_neg (by omega)];exact hlow k hk
   ·rw [hl',if_neg (by omega)];exact hhi k hk hk2
   ·rw [hl']
    split
    ·rfl
    rw [hl'] at hx
    split at hx
    ·rename_i e1
     subst e1
     rw [ho] at hoj;cases hoj
     exact hallt e he hbe
    exact hdc j oj hoj h1 h2 hx e he hbe
   rw [(vQ (ops:=ops) (R:=R) (σ:=σ) hXq hX' hsame len fr2).2 hqlen,hdst]
   exact H'
 refine ⟨fun listed a w ⟨hsz,hl⟩ H=>?_⟩
 have hun:∀m,m≤len→cnt (lst listed) lo m=m∧cD R lo σ (lst listed) m=σ:=fun m=>by
  induction m with
  |zero=>intro _;exact ⟨rfl,rfl⟩
  |succ m ih=>
   intro hm
   obtain ⟨i1,i2⟩:=ih (by omega)
   have hx:lst listed (lo+m)=false:=by rw [hl _ (by omega)];simp
   simp only [cnt,cD,hx,i1,i2,Bool.false_eq_true,if_false,and_self]
 have:=main len listed a w hsz (hun len (Nat.le_refl _)).1 (fun k hk=>by rw [hl k (by omega)];simp [hk]) (fun k hk hk2=>by rw [hl k hk2];simp;omega)
  (fun j o ho h1 h2 hx=>by rw [hl j (by omega)] at hx;simp at hx;omega) (by rw [(hun len (Nat.le_refl _)).2];exact H)
 rwa [show ops.size - (lo+len)+len=ops.size - lo by omega] at this
end
section
open Go.RowKit
variable {Pg:Program} [Kn Pg] {E:Env Pg} {C:Cx E} {σ:Sg E} {a:Act} {w:World} {π:PM} {ρ:RM} {S:Nat→Prop} {r:Option Nat}
inductive GE where
 |normal
 |exit (id:Nat)
 |goto (l:Nat)
 |ret
 |panic (p:P)
def cE (C:Cx E) (Q:GE→Sg E→Prop):Exit→Act→World→Prop
 |.normal,a,w=>∃σ,Holds C σ a w∧Q .normal σ
 |.exit id,a,w=>∃σ,Holds C σ a w∧Q (.exit id) σ
 |.goto l,a,w=>∃σ,Holds C σ a w∧Q (.goto l) σ
 |.ret,a,w=>∃σ,Holds C σ a w∧Q .ret σ
 |.panic chain,a,w=>∃σ p v π ρ S,chain=[{ v,recovered:=false }]∧aS π p v∧St C σ a w π ρ S∧Q (.panic p) σ
 |.outgrown,_,_=>False
theorem cE.mono {Q Q':GE→Sg E→Prop} (h:∀e σ,Q e σ→Q' e σ) {e:Exit} {a:Act} {w:World} (k:cE C Q e a w):cE C Q' e a w:=by
 cases e with
 |panic ch=>obtain ⟨σ,p,v,π,ρ,S,e,hp,hs,hq⟩:=k;exact ⟨σ,p,v,π,ρ,S,e,hp,hs,h _ _ hq⟩
 |outgrown=>exact k
 |_=>obtain ⟨σ,hs,hq⟩:=k;exact ⟨σ,hs,h _ _ hq⟩
structure gwp (C:Cx E) (r:Option Nat) (c:Code) (Q:GE→Sg E→Prop) (σ:Sg E):Prop where
 run:∀a w,Holds C σ a w→c.wpIn (MF Pg r) 0 Pg (cE C Q) a w
def rT (K:Sg E→Prop) (Q:GE→Sg E→Prop):GE→Sg E→Prop
 |.normal,σ=>K σ
 |e,σ=>Q e σ
def nZ (id:Nat) (Q:GE→Sg E→Prop):GE→Sg E→Prop
 |.exit i,σ=>if i=id then Q .normal σ else Q (.exit i) σ
 |e,σ=>Q e σ
section
variable {Q:GE→Sg E→Prop}
theorem qC {c:Code} {Q':GE→Sg E→Prop} (h:gwp C r c Q σ) (hq:∀e σ,Q e σ→Q' e σ):gwp C r c Q' σ:=
 ⟨fun a w H=>wpIn_mono (h.run a w H) fun _ _ _ k=>k.mono hq⟩
theorem aQ (h:Q .normal σ):gwp C r .skip Q σ:=⟨fun _ _ H=>wpIn_skip ⟨σ,H,h⟩⟩
theorem aCb {l:Nat} (h:Q .normal σ):gwp C r (.label l) Q σ:=⟨fun _ _ H=>wpIn_label ⟨σ,H,h⟩⟩
theorem bY {id:Nat} (h:Q (.exit id) σ):gwp C r (.exit id) Q σ:=⟨fun _ _ H=>wpIn_exit ⟨σ,H,h⟩⟩
theorem aL (h:Q .ret σ):gwp C r .ret Q σ:=⟨fun _ _ H=>wpIn_ret ⟨σ,H,h⟩⟩
theorem aA {x y:Code} (h:gwp C r x (rT (gwp C r y Q) Q) σ):gwp C r (.seq x y) Q σ:=⟨fun a w H=>wpIn_seq (wpIn_mono (h.run a w H) fun e a' w' k=>by
 cases e with
 |normal=>obtain ⟨σ',H',hq⟩:=k;exact gwp.run hq a' w' H'
 |_=>exact k)⟩
theorem aP {id:Nat} {c:Code} (h:gwp C r c (nZ id Q) σ):gwp C r (.block id c) Q σ:=⟨fun a w H=>wpIn_block (wpIn_mono (h.run a w H) fun e a' w' k=>by
 cases e with
 |exit i=>
  obtain ⟨σ',H',hq⟩:=k
  simp only [nZ] at hq
  simp only [Exit.inBlock]
  split
  ·rename_i e;rw [if_pos e] at hq;exact ⟨σ',H',hq⟩
  rename_i e;rw [if_neg e] at hq;exact ⟨σ',H',hq⟩
 |_=>exact k)⟩
theorem aAV {c:Operand} {x y:Code} {b:Bool} (hb:gev σ.fr c = .p (.bool b)) (ht:b=true→gwp C r x Q σ) (hf:b=false→gwp C r y Q σ):gwp C r (.cond c x y) Q σ:=⟨fun a w H=>by
 obtain ⟨π,ρ,S,H'⟩:=H
 have hv:=fP H' c
 rw [hb] at hv
 simp only [aK,aS] at hv
 refine wpIn_cond hv ?_
 cases b
 ·exact (hf rfl).run a w ⟨π,ρ,S,H'⟩
 exact (ht rfl).run a w ⟨π,ρ,S,H'⟩⟩
theorem aIS {c:Code} (I:Nat→Sg E→Prop) (n₀:Nat) (h₀:I n₀ σ) (round:∀n σ,I n σ→gwp C r c (rT (fun σ'=>∃n',n'<n∧I n' σ') Q) σ):gwp C r (.loop c) Q σ:=⟨fun a w H=>
 wpIn_loop_ghost (fun n a w=>∃σ,Holds C σ a w∧I n σ) n₀ ⟨σ,H,h₀⟩ fun n a w ⟨σ,H,hI⟩=>wpIn_mono ((round n σ hI).run a w H) fun e a' w' k=>by
  cases e with
  |normal=>obtain ⟨σ',H',n',hn,hI'⟩:=k;exact ⟨n',hn,σ',H',hI'⟩
  |_=>exact k⟩
structure cK (C:Cx E) (r:Option Nat) (ops:Array Oper) (Q:GE→Sg E→Prop) (l:List Oper) (σ:Sg E):Prop where
 run:∀a w,Holds C σ a w→wpListIn (MF Pg r) 0 Pg ops (cE C Q) l a w
theorem aIT {ops:Array Oper} (h:Q .normal σ):cK C r ops Q [] σ:=⟨fun _ _ H=>⟨σ,H,h⟩⟩
theorem aB {id:Nat} {ops:Array Oper} (h:cK C r ops Q ops.toList σ):gwp C r (.region id ops false) Q σ:=⟨fun a w H=>wpIn_region_list (h.run a w H)⟩
theorem jW {ops:Array Oper} {o:Oper} {rest:List Oper} {I:List Nat} {g:G} {ps:List (Nat×Ob)} (he:Eff C r ops o σ I g ps) (h:cK C r ops Q rest (σ.put o.dst g ps)):cK C r ops Q (o::rest) σ:=
 ⟨fun a w H=>he σ ⟨rfl,rfl,fun _ _=>rfl,fun _ _=>rfl⟩ a w H (wpListIn (MF Pg r) 0 Pg ops (cE C Q) rest) (cE C Q) fun a' w' H'=>h.run a' w' H'⟩
def qV (C:Cx E) (r:Option Nat) (ops:Array Oper) (o:Oper) (σ:Sg E) (K:Sg E→Prop) (Q:GE→Sg E→Prop):Prop:=
 ∀a w,Holds C σ a w→∀K':Act→World→Prop,(∀σ' a' w',K σ'→Holds C σ' a' w'→K' a' w')→wpO r Pg ops (cE C Q) o K' a w
theorem pN {ops:Array Oper} {o:Oper} {rest:List Oper} (he:qV C r ops o σ (cK C r ops Q rest) Q):cK C r ops Q (o::rest) σ:=
 ⟨fun a w H=>he a w H (wpListIn (MF Pg r) 0 Pg ops (cE C Q) rest) fun _ a' w' hk H'=>cK.run hk a' w' H'⟩
theorem Holds.drew (H:Holds C σ a w) (n:Nat):Holds C σ a { w with drawn:=n }:=by
 obtain ⟨π,ρ,S,H⟩:=H
 exact ⟨π,ρ,S,H.size,H.vals,H.defs,⟨H.rel.know,H.rel.objs,H.rel.apart,H.rel.sep,E.stable H.rel.res H.rel.inb (Nat.le_refl _) (fun _ _=>⟨rfl,rfl⟩) (PM.le_refl _) H.rel.know,H.rel.inb,H.rel.gl⟩,
  ⟨H.trans.size,H.trans.os,H.trans.tape,H.trans.output,H.trans.keep,H.trans.le,H.trans.own⟩,H.step,H.wfr,H.wfh,H.wfd⟩
theorem aDT {id:Nat} {ops:Array Oper} (hm:Pg.follows .mixedOrders=true) (h:qB C r ops (cE C Q) 0 σ):gwp C r (.region id ops true) Q σ:=⟨fun a w H=>
 wpIn_region_any hm (h.run _ a _ ⟨by simp,fun k hk=>by simp [lst,Array.getD_eq_getD_getElem?,hk]⟩ (H.drew _))⟩
theorem aIU {ops:Array Oper} {n:Nat} (hn:ops.size=n) (h:Q .normal σ):qB C r ops (cE C Q) n σ:=⟨fun listed a w hl H=>by
 subst hn
 rw [Nat.sub_self]
 refine ⟨?_,σ,H,h⟩
 cases hr:Region.ready .any ops listed with
 |nil=>rfl
 |cons i l=>
  have:i∈Region.ready .any ops listed:=by rw [hr];simp
  obtain ⟨h1,o,ho,_⟩:=mem_ready.1 this
  have hi:=(Array.getElem?_eq_some_iff.1 ho).1
  have:=hl.2 i hi
  simp only [lst] at this
  rw [h1] at this
  simp at this
  omega⟩
theorem aIV {ops:Array Oper} {lo:Nat} {o:Oper} {B:Nat→Nat→Prop} (ho:ops[lo]? = some o) (hB:aAT ops B) (hcut:∀j,lo<j→j<ops.size→B lo j)
  (he:qV C r ops o σ (qB C r ops (cE C Q) (lo+1)) Q):qB C r ops (cE C Q) lo σ:=⟨fun listed a w hl H=>by
 have hlo:lo<ops.size:=(Array.getElem?_eq_some_iff.1 ho).1
 rw [show ops.size - lo=(ops.size - (lo+1))+1 by omega]
 have hun:∀k,k<ops.size→listed.getD k true=decide (k<lo):=hl.2
 have hfalse:∀k,k<ops.size→(listed.getD k false=decide (k<lo)):=fun k hk=>by
  have:=hun k hk
  rw [Array.getD_eq_getD_getElem?,Array.getElem?_eq_getElem (by rw [hl.1];exact hk)] at this ⊢
  exact this
 have hready:lo∈Region.ready .any ops listed:=mem_ready.2 ⟨by rw [hun lo hlo];simp,o,ho,fun e hem hbe=>by
  have hlt:=hB.low _ _ ho e hem hbe
  rw [hfalse _ (by omega)];simp [hlt]⟩
 refine ⟨fun h0=>(by rw [h0] at hready;cases hready),fun i hi=>?_⟩
 obtain ⟨h1,o',ho',hall⟩:=mem_ready.1 hi
 have hisz:i<ops.size:=(Array.getElem?_eq_some_iff.1 ho').1
 have hB':∀j,(∀o,ops[j]? = some o→∀e∈o.after,Region.binds .any e=true→listed.getD e.on false=true)→∀i,B i j→i<lo:=by
  intro j
  induction j using Nat.strongRecOn with
  |_ j ihj=>
   intro hj i hb
   obtain ⟨o,ho,e,hem,hbe,hcase⟩:=hB.up i j hb
   have hon:=hj o ho e hem hbe
   have hlt:=hB.low j o ho e hem hbe
   have hjs:j<ops.size:=(Array.getElem?_eq_some_iff.1 ho).1
   rw [hfalse _ (by omega)] at hon
   rcases hcase with rfl|hb'
   ·simpa using hon
   refine ihj e.on hlt (fun o' ho'' e' he' hbe'=>?_) i hb'
   have:=hB.low _ _ ho'' _ he' hbe'
   rw [hfalse _ (by omega)]
   simp at hon ⊢;omega
 have hilo:i=lo:=by
  rw [hun i hisz] at h1
  simp at h1
  rcases Nat.lt_or_ge lo i with h2|h2
  ·have:=hB' i (fun o'' ho''=>by rw [ho'] at ho'';cases ho'';exact hall) lo (hcut i h2 hisz)
   omega
  omega
 subst hilo
 rw [ho] at ho';cases ho'
 unfold wpOpIn
 rw [ho]
 refine he a w H _ fun σ' a' w' hk H'=>qB.run hk _ a' w' ⟨by simpa using hl.1,fun k hk=>?_⟩ H'
 have:=aAU (listed:=listed) (k:=k) (i:=i) (by rw [hl.1];exact hisz)
 simp only [lst]
 rw [this]
 split
 ·rename_i e;subst e;simp
 rename_i e
 rw [hun k hk]
 congr 1
 apply propext
 omega⟩
theorem aFb {ops:Array Oper} {o:Oper} {x:Operand} {t:TypeId} {v:P} {K:Sg E→Prop} (hx:o.op = .panic x) (hw:dO ops σ.fr o=some true) (hv:gev σ.fr x = .p (.iface t v)) (h:Q (.panic (.iface t v)) σ):qV C r ops o σ K Q:=
 fun a w ⟨π,ρ,S,H⟩ K' _=>by
  have hwt:=fQ H hw
  have hvr:=fP H x
  rw [hv] at hvr
  simp only [aK] at hvr
  have hvr0:=hvr
  simp only [aS] at hvr
  obtain ⟨u,hu,_⟩:=hvr
  unfold wpO
  rw [hwt]
  simp only [if_true]
  refine ⟨fun f' hf'=>(by rw [kX (fun cl=>by rw [hx];simp)] at hf';cases hf'),?_⟩
  have hsem:Oper.semAt (MF Pg r).round a.eval o=execOp a.eval o:=by
   cases r with
   |none=>rfl
   |some l=>exact Oper.semAt_some l _ _ fun cl hcl=>by rw [hcl] at hx;cases hx
  have hrun:(execOp a.eval o).run Pg w = .halt (.panic (.iface t u)) w:=by
   obtain ⟨d,op,ty,ps,af,gd⟩:=o
   simp only at hx
   subst hx
   simp [execOp,hu,Instr.panic,goPanic]
  rw [hsem,hrun]
  exact ⟨σ,_,_,π,ρ,S,rfl,hu ▸ hvr0,H,h⟩
end
end
section
open Go.RowKit
mutual
def G.ren (θ:Nat→Nat):G→G
 |.p v=>.p v
 |.nils=>.nils
 |.agg cs=>.agg (G.rens θ cs)
 |.tuple cs=>.tuple (G.rens θ cs)
 |.fn f a b=>.fn f (G.rens θ a) (G.rens θ b)
 |.iface t x=>.iface t (G.ren θ x)
 |.ptr cs=>.ptr (G.rens θ cs)
 |.ref i o=>.ref (θ i) o
 |.own i n=>.own (θ i) n
 |.aref i n o=>.aref (θ i) n o
 |.fsl i o n=>.fsl (θ i) o n
 |.map i=>.map (θ i)
 |.abs=>.abs
 |.undef=>.undef
def G.rens (θ:Nat→Nat):List G→List G
 |[]=>[]
 |g::gs=>G.ren θ g::G.rens θ gs
end
def Ob.ren (θ:Nat→Nat):Ob→Ob
 |.cells cs fz=>.cells (G.rens θ cs) fz
 |.tcells t cs=>.tcells t (G.rens θ cs)
 |o=>o
theorem aCX (θ:Nat→Nat) (g:G):(g.ren θ).one=g.one:=by cases g<;>simp only [G.ren,G.one]
theorem aAW (θ:Nat→Nat):∀(gs:List G),G.rens θ gs=gs.map (G.ren θ)
 |[]=>rfl
 |g::gs=>by simp only [G.rens,List.map_cons,aAW θ gs]
mutual
theorem men_ren {θ:Nat→Nat} {j:Nat}:∀ {g:G},(g.ren θ).men j=true→∃i,g.men i=true∧θ i=j
 |.p _,h=>by simp [G.ren,G.men] at h
 |.nils,h=>by simp [G.ren,G.men] at h
 |.abs,h=>by simp [G.ren,G.men] at h
 |.undef,h=>by simp [G.ren,G.men] at h
 |.agg cs,h=>by simp only [G.ren,G.men] at h ⊢;exact kY h
 |.tuple cs,h=>by simp only [G.ren,G.men] at h ⊢;exact kY h
 |.ptr cs,h=>by simp only [G.ren,G.men] at h ⊢;exact kY h
 |.iface t x,h=>by simp only [G.ren,G.men] at h ⊢;exact men_ren h
 |.fn f a b,h=>by
  simp only [G.ren,G.men,Bool.or_eq_true] at h ⊢
  rcases h with h|h
  ·obtain ⟨i,h1,h2⟩:=kY h;exact ⟨i,.inl h1,h2⟩
  obtain ⟨i,h1,h2⟩:=kY h;exact ⟨i,.inr h1,h2⟩
 |.ref i o,h=>by simp only [G.ren,G.men,beq_iff_eq] at h ⊢;exact ⟨i,rfl,h⟩
 |.own i o,h=>by simp only [G.ren,G.men,beq_iff_eq] at h ⊢;exact ⟨i,rfl,h⟩
 |.aref i n o,h=>by simp only [G.ren,G.men,beq_iff_eq] at h ⊢;exact ⟨i,rfl,h⟩
 |.fsl i n o,h=>by simp only [G.ren,G.men,beq_iff_eq] at h ⊢;exact ⟨i,rfl,h⟩
 |.map i,h=>by simp only [G.ren,G.men,beq_iff_eq] at h ⊢;exact ⟨i,rfl,h⟩
theorem kY {θ:Nat→Nat} {j:Nat}:∀ {gs:List G},G.mens j (G.rens θ gs)=true→∃i,G.mens i gs=true∧θ i=j
 |[],h=>by simp [G.rens,G.mens] at h
 |g::gs,h=>by
  simp only [G.rens,G.mens,Bool.or_eq_true] at h ⊢
  rcases h with h|h
  ·obtain ⟨i,h1,h2⟩:=men_ren h;exact ⟨i,.inl h1,h2⟩
  obtain ⟨i,h1,h2⟩:=kY h;exact ⟨i,.inr h1,h2⟩
end
mutual
theorem wM {π:PM} {ρ:RM} {y:Value} {θ:Nat→Nat}:∀ {g:G} {v:Value},aK π ρ y (g.ren θ) v↔aK π (fun i=>ρ (θ i)) y g v
 |.p _,v=>by simp only [G.ren,aK]
 |.nils,v=>by simp only [G.ren,aK]
 |.abs,v=>by simp only [G.ren,aK]
 |.undef,v=>by simp only [G.ren,aK]
 |.agg cs,v=>by simp only [G.ren,aK,gH (gs:=cs)]
 |.tuple cs,v=>by simp only [G.ren,aK,gH (gs:=cs)]
 |.ptr cs,v=>by simp only [G.ren,aK,aDU (gs:=cs)]
 |.iface t x,v=>by simp only [G.ren,aK,wM (g:=x)]
 |.fn f a b,v=>by simp only [G.ren,aK,gH (gs:=a),gH (gs:=b)]
 |.ref i o,v=>by simp only [G.ren,aK]
 |.own i o,v=>by simp only [G.ren,aK]
 |.aref i n o,v=>by simp only [G.ren,aK]
 |.fsl i n o,v=>by simp only [G.ren,aK]
 |.map i,v=>by simp only [G.ren,aK]
theorem gH {π:PM} {ρ:RM} {y:Value} {θ:Nat→Nat}:∀ {gs:List G} {vs:List Value},aR π ρ y (G.rens θ gs) vs↔aR π (fun i=>ρ (θ i)) y gs vs
 |[],vs=>by simp only [G.rens,aR]
 |g::gs,vs=>by simp only [G.rens,aR,wM (g:=g),gH (gs:=gs)]
theorem aDU {π:PM} {ρ:RM} {y:Value} {b:Nat} {θ:Nat→Nat}:∀ {gs:List G} {o:Nat},eP π ρ y b o (G.rens θ gs)↔eP π (fun i=>ρ (θ i)) y b o gs
 |[],o=>by simp only [G.rens,eP]
 |g::gs,o=>by simp only [G.rens,eP,wM (g:=g),aDU (gs:=gs),aCX]
end
theorem qD {ρ:RM} {θ:Nat→Nat} {i:Nat} {ob:Ob}:bQ ρ (θ i) (ob.ren θ)=bQ (fun k=>ρ (θ k)) i ob:=by cases ob<;>rfl
theorem aDV {π:PM} {ρ:RM} {y:Value} {w:World} {θ:Nat→Nat} {i:Nat} {ob:Ob}:kI π ρ y w (θ i) (ob.ren θ)↔kI π (fun k=>ρ (θ k)) y w i ob:=by
 cases ob with
 |cells cs fz=>
  have:(∀c∈G.rens θ cs,c.one=true)↔∀c∈cs,c.one=true:=by
   rw [aAW]
   simp only [List.mem_map,forall_exists_index,and_imp,forall_apply_eq_imp_iff₂,aCX]
  simp only [Ob.ren,kI,gH,this]
 |tcells t cs=>
  have:(∀c∈G.rens θ cs,c.one=true)↔∀c∈cs,c.one=true:=by
   rw [aAW]
   simp only [List.mem_map,forall_exists_index,and_imp,forall_apply_eq_imp_iff₂,aCX]
  simp only [Ob.ren,kI,gH,this]
 |_=>exact Iff.rfl
theorem Ob.men_ren {θ:Nat→Nat} {j:Nat} {ob:Ob} (h:(ob.ren θ).men j=true):∃i,ob.men i=true∧θ i=j:=by
 cases ob with
 |cells cs fz=>exact kY h
 |tcells t cs=>exact kY h
 |_=>simp [Ob.ren,Ob.men] at h
theorem Ob.ren_none {θ:Nat→Nat} {ob:Ob}:ob.ren θ = .none↔ob = .none:=by cases ob<;>simp [Ob.ren]
variable {Pg:Program} [Kn Pg] {E:Env Pg} {C:Cx E} {σ:Sg E} {a:Act} {w:World} {π:PM} {ρ:RM} {S:Nat→Prop} {r:Option Nat}
theorem Rel.frame {A A':E.α} {h h1:Nat→Ob} {J:List Nat} {w':World} {π':PM} {ρ':RM} {S':Nat→Prop} (R:Rel E π ρ h A S w) (R1:Rel E π' ρ' h1 A' S' w') (hJ:∀j,j∉J→h1 j = .none)
  (hT:cH (Own ρ (rhp h J) S) w π (Own ρ' h1 S') w' π') (hout:∀j,j∉J→h j ≠ .none→ρ' j=ρ j) (hmen:∀j i,j∉J→(h j).men i=true→fL (ρ i) (ρ' i)) :
  Rel E π' ρ' (fun j=>if j∈J then h1 j else h j) A' S' w'∧cH (Own ρ h S) w π (Own ρ' (fun j=>if j∈J then h1 j else h j) S') w' π':=by
 have hfr:∀id b,id∉J→bQ ρ id (h id)=some b→b<w.heap.size∧¬Own ρ (rhp h J) S b:=fun id b hi hb=>by
  refine ⟨(R.objs id).lt hb,fun ho=>?_⟩
  rcases ho with ho|⟨j,hj⟩
  ·exact R.sep id b hb ho
  simp only [rhp] at hj
  split at hj
  ·rename_i hjI
   exact R.apart id j b (fun e=>hi (e ▸ hjI)) hb hj
  simp [bQ] at hj
 have hlive:∀id,id∉J→bQ ρ' id (h id)=bQ ρ id (h id):=fun id hi=>by
  by_cases e:h id = .none
  ·rw [e];rfl
  have:=hout id hi e
  cases h id<;>simp [bQ,this]
 have hno:∀b id,id∉J→bQ ρ id (h id)=some b→¬Own ρ' h1 S' b:=fun b id hi hb ho=>by
  obtain ⟨h1,h2⟩:=hfr id b hi hb
  rcases hT.own b ho with h3|h3
  ·exact h2 h3
  omega
 refine ⟨⟨R1.know,fun id=>?_,fun i j b hij hi hj=>?_,fun i b hi=>?_,R1.res,R1.inb,R1.gl⟩,⟨hT.size,hT.os,hT.tape,hT.output,fun b hb hn=>?_,hT.le,fun b hb=>?_⟩⟩
 ·split
  ·exact R1.objs id
  rename_i hi
  by_cases e:h id = .none
  ·rw [e];trivial
  refine (R.objs id).keep hT.le (hout id hi e) (fun i hm=>hmen id i hi hm) fun b hb=>?_
  obtain ⟨h1,h2⟩:=hfr id b hi hb
  exact hT.keep b h1 h2
 ·split at hi
  ·split at hj
   ·exact R1.apart i j b hij hi hj
   rename_i hjI
   rw [hlive j hjI] at hj
   exact hno b j hjI hj (.inr ⟨i,hi⟩)
  rename_i hiI
  rw [hlive i hiI] at hi
  split at hj
  ·exact hno b i hiI hi (.inr ⟨j,hj⟩)
  rename_i hjI
  rw [hlive j hjI] at hj
  exact R.apart i j b hij hi hj
 ·split at hi
  ·exact R1.sep i b hi
  rename_i hiI
  rw [hlive i hiI] at hi
  exact fun hs=>hno b i hiI hi (.inl hs)
 ·refine hT.keep b hb fun ho=>hn ?_
  rcases ho with ho|⟨j,hj⟩
  ·exact .inl ho
  simp only [rhp] at hj
  split at hj
  ·exact .inr ⟨j,hj⟩
  simp [bQ] at hj
 have key:Own ρ' h1 S' b∨∃id,bQ ρ id (h id)=some b:=by
  rcases hb with hb|⟨j,hj⟩
  ·exact .inl (.inl hb)
  simp only at hj
  split at hj
  ·exact .inl (.inr ⟨j,hj⟩)
  rename_i hjI
  rw [hlive j hjI] at hj;exact .inr ⟨j,hj⟩
 rcases key with k|k
 ·rcases hT.own b k with k'|k'
  ·left
   rcases k' with k'|⟨j,hj⟩
   ·exact .inl k'
   simp only [rhp] at hj
   split at hj
   ·exact .inr ⟨j,hj⟩
   simp [bQ] at hj
  exact .inr k'
 exact .inl (.inr k)
inductive cL (E:Env Pg) where
 |ok (g:G) (h:Nat→Ob) (A:E.α)
 |panic (p:P) (h:Nat→Ob) (A:E.α)
structure lJ (E:Env Pg) (π:PM) (ρ:RM) (h:Nat→Ob) (S:Nat→Prop) (w:World) (π':PM) (ρ':RM) (h':Nat→Ob) (A':E.α) (S':Nat→Prop) (w':World):Prop where
 rel:Rel E π' ρ' h' A' S' w'
 trans:cH (Own ρ h S) w π (Own ρ' h' S') w' π'
 step:∀j,j<100→fL (ρ j) (ρ' j)
 wf:∀j id,(h' j).men id=true→h' id ≠ .none
def qE (E:Env Pg) (π:PM) (ρ:RM) (h:Nat→Ob) (S:Nat→Prop) (w:World) (R:cL E→Prop):Ending→World→Prop
 |.returned v,w'=>∃π' ρ' h' A' S' g,lJ E π ρ h S w π' ρ' h' A' S' w'∧aK π' ρ' E.yv g v∧(∀id,g.men id=true→h' id ≠ .none)∧R (.ok g h' A')
 |.panicked chain,w'=>∃π' ρ' h' A' S' p v,lJ E π ρ h S w π' ρ' h' A' S' w'∧chain=[{ v,recovered:=false }]∧aS π' p v∧R (.panic p h' A')
 |.outgrown,_=>False
def bD (E:Env Pg) (f:FuncId) (args:List G) (h:Nat→Ob) (A:E.α) (R:cL E→Prop):Prop:=
 ∀π ρ S w vs,Rel E π ρ h A S w→aR π ρ E.yv args vs→CallsIn (MF Pg none) 0 Pg f ⟨vs⟩ w (qE E π ρ h S w R)
def dB:List (Nat×Nat)→Nat→Nat
 |[],_=>0
 |(i,j)::L,k=>if k=i then j else dB L k
def back:List (Nat×Nat)→Nat→Option Nat
 |[],_=>none
 |(i,j)::L,k=>if k=j then some i else back L k
theorem gM {i j:Nat}:∀ {L:List (Nat×Nat)},(L.map (·.1)).Nodup→(i,j)∈L→dB L i=j
 |[],_,h=>by cases h
 |(i',j')::L,hn,h=>by
  simp only [List.map_cons,List.nodup_cons] at hn
  rcases List.mem_cons.1 h with e|h
  ·cases e;simp [dB]
  have:i≠i':=fun e=>hn.1 (e ▸ List.mem_map.2 ⟨(i,j),h,rfl⟩)
  simp only [dB,if_neg this];exact gM hn.2 h
theorem aAq {i j:Nat}:∀ {L:List (Nat×Nat)},(L.map (·.2)).Nodup→(i,j)∈L→back L j=some i
 |[],_,h=>by cases h
 |(i',j')::L,hn,h=>by
  simp only [List.map_cons,List.nodup_cons] at hn
  rcases List.mem_cons.1 h with e|h
  ·cases e;simp [back]
  have:j≠j':=fun e=>hn.1 (e ▸ List.mem_map.2 ⟨(i,j),h,rfl⟩)
  simp only [back,if_neg this];exact aAq hn.2 h
theorem iJ {i j:Nat}:∀ {L:List (Nat×Nat)},back L j=some i→(i,j)∈L
 |[],h=>by cases h
 |(i',j')::L,h=>by
  simp only [back] at h
  split at h
  ·rename_i e;cases h;subst e;simp
  exact List.mem_cons_of_mem _ (iJ h)
theorem xZ {j:Nat}:∀ {L:List (Nat×Nat)},back L j=none→j∉L.map (·.2)
 |[],_=>by simp
 |(i',j')::L,h=>by
  simp only [back] at h
  split at h
  ·cases h
  rename_i e
  simp only [List.map_cons,List.mem_cons,not_or]
  exact ⟨e,xZ h⟩
def cR (L:List (Nat×Nat)) (h':Nat→Ob):List (Nat×Ob):=L.map fun p=>(p.2,(h' p.1).ren (dB L))
structure kZ (N:Nat) (L:List (Nat×Nat)) (h hc:Nat→Ob):Prop where
 n1:(L.map (·.1)).Nodup
 n2:(L.map (·.2)).Nodup
 old:∀i,hc i ≠ .none→∃j,(i,j)∈L∧i<100∧h j=(hc i).ren (dB L)
 new:∀i j,(i,j)∈L→hc i = .none→h j = .none∧N≤j
structure gK (L:List (Nat×Nat)) (hc h':Nat→Ob):Prop where
 sup:∀i,h' i ≠ .none→∃j,(i,j)∈L
 stay:∀i,hc i ≠ .none→h' i ≠ .none
theorem aCc {h:Nat→Ob} {f:Nat×Nat→Ob}:∀ {L:List (Nat×Nat)} {i j:Nat},(L.map (·.2)).Nodup→(i,j)∈L→cU h (L.map fun p=>(p.2,f p)) j=f (i,j)
 |[],_,_,_,h=>by cases h
 |(i',j')::L,i,j,hn,h=>by
  simp only [List.map_cons,List.nodup_cons] at hn
  simp only [List.map_cons,cU]
  rcases List.mem_cons.1 h with e|h
  ·cases e
   rw [qA,aX]
   intro p hp e
   obtain ⟨q,hq,rfl⟩:=List.mem_map.1 hp
   exact hn.1 (List.mem_map.2 ⟨q,hq,e⟩)
  exact aCc hn.2 h
theorem Rel.hand {A:E.α} {h hc:Nat→Ob} {L:List (Nat×Nat)} (R:Rel E π ρ h A S w) {N:Nat} (hp:kZ N L h hc):Rel E π (fun i=>ρ (dB L i)) hc A S w where
 know:=R.know
 objs:=fun i=>by
  by_cases e:hc i = .none
  ·rw [e];trivial
  obtain ⟨j,hj,_,he⟩:=hp.old i e
  have hl:=gM hp.n1 hj
  have:=R.objs (dB L i)
  rw [hl,he,←hl] at this
  exact aDV.1 this
 apart:=fun i j b hij hi hj=>by
  by_cases e:hc i = .none
  ·rw [e] at hi;simp [bQ] at hi
  by_cases e':hc j = .none
  ·rw [e'] at hj;simp [bQ] at hj
  obtain ⟨i2,h1,_,h2⟩:=hp.old i e
  obtain ⟨j2,h3,_,h4⟩:=hp.old j e'
  have l1:=gM hp.n1 h1
  have l2:=gM hp.n1 h3
  rw [←qD (θ:=dB L),l1,←h2] at hi
  rw [←qD (θ:=dB L),l2,←h4] at hj
  refine R.apart i2 j2 b (fun e=>?_) hi hj
  have b1:=aAq hp.n2 h1
  have b2:=aAq hp.n2 h3
  rw [e,b2] at b1
  exact hij (by simpa using b1.symm)
 sep:=fun i b hi=>by
  by_cases e:hc i = .none
  ·rw [e] at hi;simp [bQ] at hi
  obtain ⟨j,hj,_,he⟩:=hp.old i e
  have hl:=gM hp.n1 hj
  rw [←qD (θ:=dB L),hl,←he] at hi
  exact R.sep j b hi
 res:=R.res
 inb:=R.inb
 gl:=R.gl
def nE (L:List (Nat×Nat)) (ρ ρc:RM):RM:=fun j=>match back L j with
 |some i=>ρc i
 |none=>ρ j
def wN (L:List (Nat×Nat)) (h':Nat→Ob):Nat→Ob:=fun j=>match back L j with
 |some i=>(h' i).ren (dB L)
 |none=>.none
theorem oA {L:List (Nat×Nat)} {ρ ρc:RM} (n1:(L.map (·.1)).Nodup) (n2:(L.map (·.2)).Nodup) {i j:Nat} (h:(i,j)∈L):nE L ρ ρc (dB L i)=ρc i:=by
 rw [gM n1 h,nE,aAq n2 h]
theorem yA {A A':E.α} {h hc h':Nat→Ob} {L:List (Nat×Nat)} {w':World} {π':PM} {ρc:RM} {S':Nat→Prop} (R:Rel E π ρ h A S w) {N:Nat} (hp:kZ N L h hc) (hb:gK L hc h')
  (hB:lJ E π (fun i=>ρ (dB L i)) hc S w π' ρc h' A' S' w') (hwf:∀j id,(h j).men id=true→h id ≠ .none) :
  Rel E π' (nE L ρ ρc) (cU h (cR L h')) A' S' w'∧cH (Own ρ h S) w π (Own (nE L ρ ρc) (cU h (cR L h')) S') w' π' ∧
  (∀j,h j ≠ .none→fL (ρ j) (nE L ρ ρc j))∧(∀j,j<N→fL (ρ j) (nE L ρ ρc j))∧(∀id,h id ≠ .none→cU h (cR L h') id ≠ .none) ∧
  (∀j id,(cU h (cR L h') j).men id=true→cU h (cR L h') id ≠ .none) ∧
  (∀g v,aK π' ρc E.yv g v→(∀id,g.men id=true→h' id ≠ .none)→aK π' (nE L ρ ρc) E.yv (g.ren (dB L)) v∧∀id,(g.ren (dB L)).men id=true→cU h (cR L h') id ≠ .none):=by
 have hput:∀i j,(i,j)∈L→cU h (cR L h') j=(h' i).ren (dB L):=fun i j hm=>aCc (f:=fun p=>(h' p.1).ren (dB L)) hp.n2 hm
 have hputn:∀j,back L j=none→cU h (cR L h') j=h j:=fun j hj=>qA fun p hp' e=>by
  obtain ⟨q,hq,rfl⟩:=List.mem_map.1 hp'
  exact xZ hj (List.mem_map.2 ⟨q,hq,e⟩)
 have hRS:∀j,(h j ≠ .none∨j<N)→fL (ρ j) (nE L ρ ρc j):=fun j hj=>by
  unfold nE
  cases hbk:back L j with
  |none=>exact .inl rfl
  |some i=>
   have hm:=iJ hbk
   by_cases e:hc i = .none
   ·obtain ⟨h1,h2⟩:=hp.new i j hm e
    rcases hj with hj|hj
    ·exact absurd h1 hj
    omega
   obtain ⟨j2,h1,h2,_⟩:=hp.old i e
   have:=hB.step i h2
   rwa [gM hp.n1 hm] at this
 have hval:∀g v,aK π' ρc E.yv g v→(∀id,g.men id=true→h' id ≠ .none)→aK π' (nE L ρ ρc) E.yv (g.ren (dB L)) v:=fun g v hv hm=>by
  refine wM.2 (hv.mono (PM.le_refl _) fun id hid=>.inl ?_)
  obtain ⟨j,hj⟩:=hb.sup id (hm id hid)
  exact oA hp.n1 hp.n2 hj
 have R1:Rel E π' (nE L ρ ρc) (wN L h') A' S' w':=by
  have hlive:∀j b,bQ (nE L ρ ρc) j (wN L h' j)=some b→∃i,(i,j)∈L∧bQ ρc i (h' i)=some b:=fun j b hj=>by
   unfold wN at hj
   cases hbk:back L j with
   |none=>rw [hbk] at hj;simp [bQ] at hj
   |some i=>
    rw [hbk] at hj
    have hm:=iJ hbk
    refine ⟨i,hm,?_⟩
    have hl:=gM hp.n1 hm
    simp only at hj
    rw [←hl,qD] at hj
    have e:=oA (ρ:=ρ) (ρc:=ρc) hp.n1 hp.n2 hm
    cases ho:h' i<;>rw [ho] at hj<;>simp only [bQ,e,reduceCtorEq] at hj ⊢<;>exact hj
  refine ⟨hB.rel.know,fun j=>?_,fun i j b hij hi hj=>?_,fun i b hi=>?_,hB.rel.res,hB.rel.inb,hB.rel.gl⟩
  ·unfold wN
   cases hbk:back L j with
   |none=>trivial
   |some i=>
    have hm:=iJ hbk
    have hl:=gM hp.n1 hm
    simp only
    have:kI π' (nE L ρ ρc) E.yv w' (dB L i) ((h' i).ren (dB L)):=by
     refine aDV.2 ((hB.rel.objs i).keep (PM.le_refl _) ?_ (fun k hk=>.inl ?_) fun _ _=>⟨rfl,rfl⟩)
     ·exact oA hp.n1 hp.n2 hm
     obtain ⟨j',hj'⟩:=hb.sup k (hB.wf i k hk)
     exact oA hp.n1 hp.n2 hj'
    rwa [hl] at this
  ·obtain ⟨i1,m1,l1⟩:=hlive i b hi
   obtain ⟨i2,m2,l2⟩:=hlive j b hj
   refine hB.rel.apart i1 i2 b (fun e=>?_) l1 l2
   subst e
   have e1:=gM hp.n1 m1
   have e2:=gM hp.n1 m2
   exact hij (e1.symm.trans e2)
  obtain ⟨i1,_,l1⟩:=hlive i b hi
  exact hB.rel.sep i1 b l1
 have hT:cH (Own ρ (rhp h (L.map (·.2))) S) w π (Own (nE L ρ ρc) (wN L h') S') w' π':=by
  have hsub:∀b,Own (fun i=>ρ (dB L i)) hc S b→Own ρ (rhp h (L.map (·.2))) S b:=fun b hb'=>by
   rcases hb' with hb'|⟨i,hi⟩
   ·exact .inl hb'
   by_cases e:hc i = .none
   ·rw [e] at hi;simp [bQ] at hi
   obtain ⟨j,hj,_,he⟩:=hp.old i e
   have hl:=gM hp.n1 hj
   rw [←qD (θ:=dB L),hl,←he] at hi
   refine .inr ⟨j,?_⟩
   simp only [rhp]
   rw [if_pos (List.mem_map.2 ⟨(i,j),hj,rfl⟩)]
   exact hi
  have hT1:=hB.trans.weaken hsub
  refine ⟨hT1.size,hT1.os,hT1.tape,hT1.output,hT1.keep,hT1.le,fun b hb'=>?_⟩
  refine hT1.own b ?_
  rcases hb' with hb'|⟨j,hj⟩
  ·exact .inl hb'
  unfold wN at hj
  cases hbk:back L j with
  |none=>rw [hbk] at hj;simp [bQ] at hj
  |some i=>
   rw [hbk] at hj
   have hm:=iJ hbk
   have hl:=gM hp.n1 hm
   simp only at hj
   rw [←hl,qD] at hj
   have e:=oA (ρ:=ρ) (ρc:=ρc) hp.n1 hp.n2 hm
   refine .inr ⟨i,?_⟩
   cases ho:h' i<;>rw [ho] at hj<;>simp only [bQ,e,reduceCtorEq] at hj ⊢<;>exact hj
 have hfr:=Rel.frame (J:=L.map (·.2)) R R1 (fun j hj=>by
   unfold wN
   cases hbk:back L j with
   |none=>rfl
   |some i=>exact absurd (List.mem_map.2 ⟨(i,j),iJ hbk,rfl⟩) hj) hT
  (fun j hj _=>by
   unfold nE
   cases hbk:back L j with
   |none=>rfl
   |some i=>exact absurd (List.mem_map.2 ⟨(i,j),iJ hbk,rfl⟩) hj)
  (fun j i _ hm=>hRS i (.inl (hwf j i hm)))
 have hheap:(fun j=>if j∈L.map (·.2) then wN L h' j else h j)=cU h (cR L h'):=funext fun j=>by
  cases hbk:back L j with
  |none=>rw [if_neg (xZ hbk),hputn j hbk]
  |some i=>
   have hm:=iJ hbk
   rw [if_pos (List.mem_map.2 ⟨(i,j),hm,rfl⟩),hput i j hm]
   simp [wN,hbk]
 rw [hheap] at hfr
 have hne:∀id,h id ≠ .none→cU h (cR L h') id ≠ .none:=fun id hid=>by
  cases hbk:back L id with
  |none=>rw [hputn id hbk];exact hid
  |some i=>
   have hm:=iJ hbk
   rw [hput i id hm]
   intro e
   by_cases e':hc i = .none
   ·exact hid (hp.new i id hm e').1
   exact hb.stay i e' (Ob.ren_none.1 e)
 have hmn:∀i j,h' i ≠ .none→dB L i=j→cU h (cR L h') j ≠ .none:=fun i j hi hj=>by
  obtain ⟨j',hj'⟩:=hb.sup i hi
  have hl:=gM hp.n1 hj'
  rw [←hj,hl,hput i j' hj']
  exact fun e=>hi (Ob.ren_none.1 e)
 refine ⟨hfr.1,hfr.2,fun j hj=>hRS j (.inl hj),fun j hj=>hRS j (.inr hj),hne,fun j id hm=>?_,fun g v hv hm=>⟨hval g v hv hm,fun id hid=>?_⟩⟩
 ·cases hbk:back L j with
  |none=>rw [hputn j hbk] at hm;exact hne id (hwf j id hm)
  |some i=>
   rw [hput i j (iJ hbk)] at hm
   obtain ⟨k,hk,hk2⟩:=Ob.men_ren hm
   exact hmn k id (hB.wf i k hk) hk2
 obtain ⟨k,hk,hk2⟩:=men_ren hid
 exact hmn k id (hm k hk) hk2
end
section
open Go.RowKit
variable {Pg:Program} [Kn Pg] {E:Env Pg} {C:Cx E} {σ:Sg E} {a:Act} {w:World} {π:PM} {ρ:RM} {S:Nat→Prop} {r:Option Nat}
def aIW:TypeDesc→Bool
 |.pointer _=>true
 |_=>false
def iP (Pg:Program) (t:TypeId) (name:String):Option FuncId:=
 match Pg.info? t,Pg.underlying t with
 |some i,some D=>match i.methods.find? (·.name==name) with
  |some m=>if m.path.isEmpty then match m.func with
    |some (f,pr)=>if pr=aIW D then some f else none
    |none=>none
   else none
  |none=>none
 |_,_=>none
theorem aAX {t:TypeId} {name:String} {f:FuncId} (h:iP Pg t name=some f) (n:Nat) (v:Value) (w:World):(Go.method (n+1) t v name).run Pg w = .ok (f,v) w:=by
 unfold iP at h
 split at h
 ·rename_i i D hi hD
  split at h
  ·rename_i m hm
   split at h
   ·rename_i hp
    split at h
    ·rename_i f' pr hf
     split at h
     ·rename_i hpr
      cases h
      have hpath:m.path.toList=[]:=by
       have:m.path.size=0:=by simpa [Array.isEmpty] using hp
       exact List.eq_nil_of_length_eq_zero (by simpa using this)
      simp only [Go.method,Sem.run_bind,run_typeInfo w hi,Result.andThen_ok,hm,hpath,Go.follow,Sem.run_pure,hf,Go.receiverAt,run_underlying hD]
      subst hpr
      cases D<;>simp [aIW,Go.Place.get]
     cases h
    cases h
   cases h
  cases h
 cases h
def cI (Pg:Program) (fr:Nat→G) (cl:Call):Option (FuncId×List G):=
 match cl.callee with
 |.value x=>match gev fr x with
  |.p (.fn (.func f) a b)=>some (f,a.map .p++(cl.args.toList.map (gev fr)++b.map .p))
  |.fn (.func f) a b=>some (f,a++(cl.args.toList.map (gev fr)++b))
  |_=>none
 |.invoke recv name=>match gev fr recv with
  |.p (.iface t v)=>match iP Pg t name with|some f=>some (f,.p v::cl.args.toList.map (gev fr))|none=>none
  |.iface t v=>match iP Pg t name with|some f=>some (f,v::cl.args.toList.map (gev fr))|none=>none
  |_=>none
 |.builtin _=>none
theorem aR.append {y:Value}:∀ {gs hs:List G} {us vs:List Value},aR π ρ y gs us→aR π ρ y hs vs→aR π ρ y (gs++hs) (us++vs)
 |[],hs,us,vs,h,k=>by simp only [aR] at h;subst h;exact k
 |g::gs,hs,us,vs,h,k=>by
  simp only [aR] at h
  obtain ⟨v,vs',rfl,h1,h2⟩:=h
  simp only [List.cons_append,aR]
  exact ⟨v,_,rfl,h1,aR.append h2 k⟩
def aJ (Pg:Program) (f:FuncId):Prop:=∀args w,(callFunc f args).run Pg w = .ok (.enter f args) w
theorem aJ.mk {f:FuncId} {fn:Func} {c:Code} (hf:Pg.funcs[f]? = some fn) (hname:(fn.name == "runtime.NumGoroutine")=false) (hb:fn.body=some c):aJ Pg f:=fun args w=>by
 have h1:fn.name ≠ "runtime.NumGoroutine":=by simpa using hname
 simp [callFunc,hf,h1,hb]
theorem aAY (H:St C σ a w π ρ S) {cl:Call} {f:FuncId} {gs:List G} (hg:cI Pg σ.fr cl=some (f,gs)) (hent:aJ Pg f) {dst ty pos after guard} :
  ∃vs,(execOp a.eval ⟨dst,.call cl,ty,pos,after,guard⟩).run Pg w = .ok (.enter f ⟨vs⟩) w∧aR π ρ E.yv gs vs:=by
 obtain ⟨callee,⟨args⟩,ats⟩:=cl
 have hargs:=aR.map_ev (fP H) args
 unfold cI at hg
 split at hg
 ·rename_i x hx
  simp only at hx
  subst hx
  have hv:=fP H x
  split at hg
  ·rename_i f' as bs he
   cases hg
   rw [he] at hv
   simp only [aK,aS] at hv
   obtain ⟨us,vs,hv,h1,h2⟩:=hv
   refine ⟨us++(args.map a.eval++vs),?_,(aR.of_PRels h1).append (hargs.append (aR.of_PRels h2))⟩
   have:=hent ⟨us++(args.map a.eval++vs)⟩ w
   simp [execOp,resolve,hv,Deferred.ofValue,invoke]
   exact this
  ·rename_i f' as bs he
   cases hg
   rw [he] at hv
   simp only [aK] at hv
   obtain ⟨us,vs,hv,h1,h2⟩:=hv
   refine ⟨us++(args.map a.eval++vs),?_,h1.append (hargs.append h2)⟩
   have:=hent ⟨us++(args.map a.eval++vs)⟩ w
   simp [execOp,resolve,hv,Deferred.ofValue,invoke]
   exact this
  cases hg
 ·rename_i recv name hx
  simp only at hx
  subst hx
  have hv:=fP H recv
  split at hg
  ·rename_i t v he
   split at hg
   ·rename_i f' hm
    cases hg
    rw [he] at hv
    simp only [aK,aS] at hv
    obtain ⟨u,hv,h1⟩:=hv
    refine ⟨u::args.map a.eval,?_,by simp only [aR];exact ⟨u,_,rfl,by simpa only [aK] using h1,hargs⟩⟩
    have h2:=hent ⟨u::args.map a.eval⟩ w
    have h3:=fun n=>aAX hm n u w
    simp [execOp,resolve,hv,invoke,callMethod,run_program,Made.depth,h3]
    rw [List.take_of_length_le (by simp)]
    exact h2
   cases hg
  ·rename_i t v he
   split at hg
   ·rename_i f' hm
    cases hg
    rw [he] at hv
    simp only [aK] at hv
    obtain ⟨u,hv,h1⟩:=hv
    refine ⟨u::args.map a.eval,?_,by simp only [aR];exact ⟨u,_,rfl,h1,hargs⟩⟩
    have h2:=hent ⟨u::args.map a.eval⟩ w
    have h3:=fun n=>aAX hm n u w
    simp [execOp,resolve,hv,invoke,callMethod,run_program,Made.depth,h3]
    rw [List.take_of_length_le (by simp)]
    exact h2
   cases hg
  cases hg
 cases hg
def cvt (h:Nat→Ob) (g:G):Prop×G:=match toP h g with
 |some (c,p)=>(c,.p p)
 |none=>(True,g)
def oB (h:Nat→Ob):List G→Prop×List G
 |[]=>(True,[])
 |g::gs=>((cvt h g).1∧(oB h gs).1,(cvt h g).2::(oB h gs).2)
theorem aAr {A:E.α} {h:Nat→Ob} (R:Rel E π ρ h A S w):∀ {gs:List G} {vs:List Value},aR π ρ E.yv gs vs→(oB h gs).1→aR π ρ E.yv (oB h gs).2 vs
 |[],vs,hv,_=>hv
 |g::gs,vs,hv,hc=>by
  simp only [aR] at hv
  obtain ⟨v,vs',rfl,h1,h2⟩:=hv
  simp only [oB,aR]
  refine ⟨v,vs',rfl,?_,aAr R h2 hc.2⟩
  have hc1:=hc.1
  unfold cvt at hc1 ⊢
  split
  ·rename_i c p ht
   rw [ht] at hc1
   simp only [aK]
   exact fJ R ht hc1 h1
  exact h1
theorem St.back (H:St C σ a w π ρ S) {L:List (Nat×Nat)} {hc h':Nat→Ob} (hp:kZ C.lim L σ.h hc) (hb:gK L hc h') {w':World} {π':PM} {ρc:RM} {S':Nat→Prop} {A':E.α}
  (hB:lJ E π (fun i=>ρ (dB L i)) hc S w π' ρc h' A' S' w'):St C { σ with h:=cU σ.h (cR L h'),A:=A' } a w' π' (nE L ρ ρc) S':=by
 obtain ⟨c1,c2,c3,c4,c5,c6,_⟩:=yA H.rel hp hb hB H.wfh
 exact H.putObj c1 c2 c3 c4 c5 c6
theorem aCd (H:St C σ a w π ρ S) {cl:Call} {f:FuncId} {gs:List G} (hg:cI Pg σ.fr cl=some (f,gs)) (hent:aJ Pg f) {dst:Option Tmp} {ty pos after guard}
  {J:List Nat} {c:Prop} {args:List G} {L:List (Nat×Nat)} (hcv:oB (rhp σ.h J) gs=(c,G.rens (dB L) args)) (hcc:c) {hc:Nat→Ob} (hp:kZ C.lim L σ.h hc) {R:cL E→Prop} (spec:bD E f args hc σ.A R)
  (hok:∀g h' A',R (.ok g h' A')→gK L hc h') (hpa:∀p h' A',R (.panic p h' A')→gK L hc h') (hdst:∀t,dst=some t→t<C.N) :
  ∃vs,(execOp a.eval ⟨dst,.call cl,ty,pos,after,guard⟩).run Pg w = .ok (.enter f ⟨vs⟩) w∧CallsIn (MF Pg none) 0 Pg f ⟨vs⟩ w fun
   |.returned v,w'=>∃g h' A',R (.ok g h' A')∧Holds C (Sg.put { σ with A:=A' } dst (g.ren (dB L)) (cR L h')) (a.put dst v) w'
   |.panicked chain,w'=>∃p v h' A' π' ρ' S',chain=[{ v,recovered:=false }]∧aS π' p v∧R (.panic p h' A')∧St C { σ with A:=A',h:=cU σ.h (cR L h') } a w' π' ρ' S'
   |.outgrown,_=>False:=by
 obtain ⟨vs,hrun,hvs⟩:=aAY H hg hent (dst:=dst) (ty:=ty) (pos:=pos) (after:=after) (guard:=guard)
 refine ⟨vs,hrun,?_⟩
 have hvs':=aAr (H.rel.restrict J) hvs (by rw [hcv];exact hcc)
 rw [hcv] at hvs'
 refine (spec π _ S w vs (H.rel.hand hp) (gH.1 hvs')).mono fun e w' k=>?_
 cases e with
 |returned v=>
  obtain ⟨π',ρ',h',A',S',g,hB,hv,hm,hR⟩:=k
  have hb:=hok g h' A' hR
  have H':=H.back hp hb hB
  obtain ⟨_,_,_,_,_,_,c7⟩:=yA H.rel hp hb hB H.wfh
  obtain ⟨v1,v2⟩:=c7 g v hv hm
  exact ⟨g,h',A',hR,π',_,S',H'.putReg hdst v1 v2⟩
 |panicked chain=>
  obtain ⟨π',ρ',h',A',S',p,v,hB,he,hv,hR⟩:=k
  exact ⟨p,v,h',A',π',_,S',he,hv,hR,H.back hp (hpa p h' A' hR) hB⟩
 |outgrown=>exact k
theorem uX {fr fr':Nat→G} {cl:Call} (h:∀x∈cl.operands.toList,gev fr x=gev fr' x):cI Pg fr cl=cI Pg fr' cl:=by
 obtain ⟨callee,args,ats⟩:=cl
 have hargs:args.toList.map (gev fr)=args.toList.map (gev fr'):=List.map_congr_left fun x hx=>h x (by
  cases callee<;>simp [Call.operands,Array.mem_toList_iff] at hx ⊢<;>simp [hx])
 unfold cI
 cases callee with
 |value x=>
  have hx:gev fr x=gev fr' x:=h x (by simp [Call.operands])
  simp only [hx,hargs]
 |invoke x n=>
  have hx:gev fr x=gev fr' x:=h x (by simp [Call.operands])
  simp only [hx,hargs]
 |builtin b=>rfl
theorem jD {f:FuncId} {vs:Array Value} {R:Ending→World→Prop} {n:Nat} (h:CallsIn (MF Pg none) 0 Pg f vs w R):CallsIn (MF Pg r) n Pg f vs w R:=⟨h.1,fun cs _=>h.2 cs (room_wide _)⟩
theorem aIX {ops:Array Oper} {o:Oper} {cl:Call} {f:FuncId} {gs args:List G} {J:List Nat} {c:Prop} {L:List (Nat×Nat)} {hc h':Nat→Ob} {g:G} (ho:o.op = .call cl) (hw:dO ops σ.fr o=some true)
  (hg:cI Pg σ.fr cl=some (f,gs)) (hent:aJ Pg f) (hcv:oB (rhp σ.h J) gs=(c,G.rens (dB L) args)) (hcc:c) (hp:kZ C.lim L σ.h hc) (hJ:∀p∈L,p.2∈J)
  (spec:bD E f args hc σ.A fun x=>x = .ok g h' σ.A) (hb:gK L hc h') (hdst:∀t,o.dst=some t→t<C.N):Eff C r ops o σ J (g.ren (dB L)) (cR L h'):=by
 intro σ' hA a w ⟨π,ρ,S,H⟩ K Q hK
 have hwt:=fQ H ((kW hA).trans hw)
 unfold wpO
 rw [hwt]
 simp only [if_true]
 have hg':cI Pg σ'.fr cl=some (f,gs):=by
  rw [uX (fr':=σ.fr)]
  ·exact hg
  have:=nY hA
  rw [ho] at this
  simpa [Op.operands] using this
 have hrh:rhp σ'.h J=rhp σ.h J:=funext fun id=>by
  simp only [rhp]
  split
  ·rename_i hi;exact hA.h id hi
  rfl
 have hp':kZ C.lim L σ'.h hc:=⟨hp.n1,hp.n2,fun i hi=>by
   obtain ⟨j,h1,h2,h3⟩:=hp.old i hi
   exact ⟨j,h1,h2,(hA.h j (hJ _ h1)).trans h3⟩,fun i j hm hi=>by
   obtain ⟨h1,h2⟩:=hp.new i j hm hi
   exact ⟨(hA.h j (hJ _ hm)).trans h1,h2⟩⟩
 obtain ⟨vs,hrun,hcall⟩:=aCd H hg' hent (dst:=o.dst) (ty:=o.type) (pos:=o.pos) (after:=o.after) (guard:=o.guard) (by rw [hrh];exact hcv) hcc hp' (by rw [hA.A];exact spec)
  (fun g2 h2 A2 e=>by cases e;exact hb) (fun p h2 A2 e=>by cases e) hdst
 refine ⟨fun _ _=>trivial,?_⟩
 have hsem:Oper.semAt (MF Pg r).round a.eval o=execOp a.eval o:=by
  cases r with
  |none=>rfl
  |some l=>exact Oper.semAt_some l _ _ fun cl hcl=>by rw [hcl] at ho;cases ho
 have hoo:execOp a.eval o=execOp a.eval ⟨o.dst,.call cl,o.type,o.pos,o.after,o.guard⟩:=by rw [←ho]
 rw [hsem,hoo,hrun]
 refine ⟨fun h=>by simp [Fence.wide] at h,jD (hcall.mono fun e w' k=>?_)⟩
 cases e with
 |returned v=>
  obtain ⟨g2,h2,A2,e,H'⟩:=k
  cases e
  refine hK _ _ ?_
  have:({ σ' with A:=σ.A }:Sg E)=σ':=by rw [←hA.A]
  rwa [this] at H'
 |panicked chain=>obtain ⟨p,v,h2,A2,π',ρ',S',_,_,e,_⟩:=k;cases e
 |outgrown=>exact k.elim
theorem aHh {ops:Array Oper} {o:Oper} {cl:Call} {f:FuncId} {gs args:List G} {J:List Nat} {c:Prop} {L:List (Nat×Nat)} {hc:Nat→Ob} {R:cL E→Prop} {K:Sg E→Prop} {Q:GE→Sg E→Prop} (ho:o.op = .call cl) (hw:dO ops σ.fr o=some true)
  (hg:cI Pg σ.fr cl=some (f,gs)) (hent:aJ Pg f) (hcv:oB (rhp σ.h J) gs=(c,G.rens (dB L) args)) (hcc:c) (hp:kZ C.lim L σ.h hc)
  (spec:bD E f args hc σ.A R) (hok:∀g h' A',R (.ok g h' A')→gK L hc h'∧K (Sg.put { σ with A:=A' } o.dst (g.ren (dB L)) (cR L h')))
  (hpa:∀p h' A',R (.panic p h' A')→gK L hc h'∧Q (.panic p) { σ with A:=A',h:=cU σ.h (cR L h') }) (hdst:∀t,o.dst=some t→t<C.N):qV C r ops o σ K Q:=by
 intro a w ⟨π,ρ,S,H⟩ K' hK
 have hwt:=fQ H hw
 unfold wpO
 rw [hwt]
 simp only [if_true]
 obtain ⟨vs,hrun,hcall⟩:=aCd H hg hent (dst:=o.dst) (ty:=o.type) (pos:=o.pos) (after:=o.after) (guard:=o.guard) hcv hcc hp spec (fun g h' A' e=>(hok g h' A' e).1) (fun p h' A' e=>(hpa p h' A' e).1) hdst
 refine ⟨fun _ _=>trivial,?_⟩
 have hsem:Oper.semAt (MF Pg r).round a.eval o=execOp a.eval o:=by
  cases r with
  |none=>rfl
  |some l=>exact Oper.semAt_some l _ _ fun cl hcl=>by rw [hcl] at ho;cases ho
 have hoo:execOp a.eval o=execOp a.eval ⟨o.dst,.call cl,o.type,o.pos,o.after,o.guard⟩:=by rw [←ho]
 rw [hsem,hoo,hrun]
 refine ⟨fun h=>by simp [Fence.wide] at h,jD (hcall.mono fun e w' k=>?_)⟩
 cases e with
 |returned v=>
  obtain ⟨g2,h2,A2,e,H'⟩:=k
  exact hK _ _ _ (hok g2 h2 A2 e).2 H'
 |panicked chain=>
  obtain ⟨p,v,h2,A2,π',ρ',S',e1,e2,e3,H'⟩:=k
  exact ⟨_,p,v,π',ρ',S',e1,e2,H',(hpa p h2 A2 e3).2⟩
 |outgrown=>exact k.elim
end
section
open Go.RowKit
variable {Pg:Program} [Kn Pg] {E:Env Pg} {C:Cx E} {σ:Sg E} {a:Act} {w:World} {π:PM} {ρ:RM} {S:Nat→Prop} {r:Option Nat}
def aAZ (Pg:Program) (h:Nat→Ob) (fr:Nat→G):ResultVar→Option (Prop×G)
 |.tmp t=>some (True,fr t)
 |.cell x t=>match ti Pg t with
  |some i=>match pB i h (fr x) with|some (c,out)=>some (c,out.val)|none=>none
  |none=>none
def zO (Pg:Program) (h:Nat→Ob) (fr:Nat→G):List ResultVar→Option (Prop×List G)
 |[]=>some (True,[])
 |x::l=>match aAZ Pg h fr x with
  |some (c,g)=>match zO Pg h fr l with
   |some (d,gs)=>some (c∧d,g::gs)
   |none=>none
  |none=>none
def tup:List G→G
 |[g]=>g
 |gs=>mkTuple gs
def fH (Pg:Program) (h:Nat→Ob) (fr:Nat→G) (l:List ResultVar):Option (Prop×G):=
 match zO Pg h fr l with
 |some (c,gs)=>some (c,tup gs)
 |none=>none
def aDW (tmps:Array Value):ResultVar→Sem Value
 |.tmp t=>pure (tmps.getD t undef)
 |.cell y t=>do loadVar t (←asAddr (tmps.getD y undef))
theorem aFc (fn:Func) (tmps:Array Value):results fn tmps=(do let vs ←fn.results.mapM (aDW tmps);pure (if h:vs.size=1 then vs[0] else .tuple vs)):=rfl
theorem aIY (H:St C σ a w π ρ S) {x:ResultVar} {c:Prop} {g:G} (hg:aAZ Pg σ.h σ.fr x=some (c,g)) (hc:c) :
  (∃v,(aDW a.tmps x).run Pg w = .ok v w∧aK π ρ E.yv g v)∧∀id,g.men id=true→σ.h id ≠ .none:=by
 cases x with
 |tmp t=>
  simp only [aAZ,Option.some.injEq,Prod.mk.injEq] at hg
  obtain ⟨-,rfl⟩:=hg
  exact ⟨⟨_,Sem.run_pure ..,H.vals t⟩,H.wfr t⟩
 |cell y t=>
  simp only [aAZ] at hg
  split at hg
  ·rename_i i hi
   split at hg
   ·rename_i c' out ho
    cases hg
    obtain ⟨hp,u,hu,hv⟩:=aDG H.rel hi ho hc (H.vals y)
    have hlv:=aDS (L:=fun id=>σ.h id ≠ .none) H.wfh ho (H.wfr y)
    refine ⟨⟨u,?_,hv⟩,fun id hm=>(hlv.1 id hm).elim (fun h=>h) fun ⟨ob,e⟩=>by rw [hp] at e;cases e⟩
    have:∃ad,a.tmps.getD y undef = .pointer (some ad):=by
     have hvy:=H.vals y
     cases hg2:σ.fr y<;>rw [hg2] at hvy ho<;>simp only [pB,reduceCtorEq] at ho<;>simp only [aK] at hvy
     ·obtain ⟨b,o,e,_⟩:=hvy;exact ⟨_,e⟩
     ·exact ⟨_,hvy⟩
     rename_i id len off
     split at ho
     ·rename_i e sz xs fz hob
      split at ho
      ·split at ho
       ·cases ho
        have hh:=H.rel.objs id
        rw [hob] at hh
        obtain ⟨cs,_,hl,_⟩:=hh
        obtain ⟨b,n,c2,_,e2⟩:=hvy.2 (hl.trans hc.1)
        exact ⟨_,e2⟩
       cases ho
      split at ho
      ·cases ho
       have hh:=H.rel.objs id
       rw [hob] at hh
       obtain ⟨cs,_,hl,_⟩:=hh
       obtain ⟨b,n,c2,_,e2⟩:=hvy.2 (hl.trans hc)
       exact ⟨_,e2⟩
      cases ho
     cases ho
    obtain ⟨ad,had⟩:=this
    simp only [aDW]
    rw [had] at hu ⊢
    simpa [Instr.loadAt,Instr.sureAddr,asAddr] using hu
   cases hg
  cases hg
theorem aDX (H:St C σ a w π ρ S):∀ {l:List ResultVar} {c:Prop} {gs:List G},zO Pg σ.h σ.fr l=some (c,gs)→c →
  (∃vs,(l.mapM (aDW a.tmps)).run Pg w = .ok vs w∧aR π ρ E.yv gs vs)∧∀id,G.mens id gs=true→σ.h id ≠ .none
 |[],c,gs,hg,_=>by
  simp only [zO,Option.some.injEq,Prod.mk.injEq] at hg
  obtain ⟨-,rfl⟩:=hg
  exact ⟨⟨[],by simp,by simp only [aR]⟩,fun id h=>by simp [G.mens] at h⟩
 |x::l,c,gs,hg,hc=>by
  simp only [zO] at hg
  split at hg
  ·rename_i c1 g h1
   split at hg
   ·rename_i c2 gs' h2
    cases hg
    obtain ⟨⟨v,hv,hr⟩,hm⟩:=aIY H h1 hc.1
    obtain ⟨⟨vs,hvs,hrs⟩,hms⟩:=aDX H h2 hc.2
    refine ⟨⟨v::vs,?_,by simp only [aR];exact ⟨v,vs,rfl,hr,hrs⟩⟩,fun id h=>?_⟩
    ·simp only [List.mapM_cons,Sem.run_bind,hv,Result.andThen_ok,hvs,Sem.run_pure]
    simp only [G.mens,Bool.or_eq_true] at h
    exact h.elim (hm id) (hms id)
   cases hg
  cases hg
theorem aA0 (H:St C σ a w π ρ S) {fn:Func} {c:Prop} {g:G} (hg:fH Pg σ.h σ.fr fn.results.toList=some (c,g)) (hc:c) :
  (∃v,(results fn a.tmps).run Pg w = .ok v w∧aK π ρ E.yv g v)∧∀id,g.men id=true→σ.h id ≠ .none:=by
 unfold fH at hg
 split at hg
 ·rename_i c' gs hgs
  cases hg
  obtain ⟨⟨vs,hvs,hr⟩,hm⟩:=aDX H hgs hc
  have hrun:(fn.results.mapM (aDW a.tmps)).run Pg w = .ok ⟨vs⟩ w:=by
   rw [Array.mapM_eq_mapM_toList]
   simp only [map_eq_pure_bind,Sem.run_bind,hvs,Result.andThen_ok,Sem.run_pure]
  refine ⟨⟨if h:(Array.mk vs).size=1 then (Array.mk vs)[0] else .tuple ⟨vs⟩,?_,?_⟩,fun id h=>?_⟩
  ·rw [aFc]
   simp only [Sem.run_bind,hrun,Result.andThen_ok,Sem.run_pure]
  ·have hlen:=hr.length
   match gs,vs,hr,hlen with
   |[],vs,hr,hlen=>
    have:vs=[]:=List.eq_nil_of_length_eq_zero hlen
    subst this
    exact aK.mkTuple hr
   |[g],[v],hr,_=>
    simp only [aR] at hr
    obtain ⟨v',vs',e,h1,_⟩:=hr
    cases e
    exact h1
   |g::g'::gs,v::v'::vs,hr,_=>
    simp only [List.size_toArray,List.length_cons,tup]
    rw [dif_neg (by omega)]
    exact aK.mkTuple hr
  match gs,hm,h with
  |[],hm,h=>exact hm id (jC h)
  |[g],hm,h=>exact hm id (by simp only [tup] at h;simp [G.mens,h])
  |g::g'::gs,hm,h=>exact hm id (jC h)
 cases hg
def aBW (args:List G):Nat→G:=fun t=>args.getD t .undef
structure Sub (h' h:Nat→Ob):Prop where
 sub:∀id,h' id=h id∨h' id = .none
 wf:∀j id,(h' j).men id=true→h' id ≠ .none
theorem Rel.sub {A:E.α} {h h':Nat→Ob} (R:Rel E π ρ h A S w) (hs:Sub h' h):Rel E π ρ h' A S w:=by
 have hl:∀i b,bQ ρ i (h' i)=some b→bQ ρ i (h i)=some b:=fun i b hb=>by
  rcases hs.sub i with e|e
  ·rwa [e] at hb
  rw [e] at hb;simp [bQ] at hb
 refine ⟨R.know,fun id=>?_,fun i j b hij hi hj=>R.apart i j b hij (hl i b hi) (hl j b hj),fun i b hi=>R.sep i b (hl i b hi),R.res,R.inb,R.gl⟩
 rcases hs.sub id with e|e
 ·rw [e];exact R.objs id
 rw [e];trivial
theorem Own.sub {h h':Nat→Ob} (hs:Sub h' h) {b:Nat} (hb:Own ρ h' S b):Own ρ h S b:=by
 rcases hb with hb|⟨id,hb⟩
 ·exact .inl hb
 rcases hs.sub id with e|e
 ·rw [e] at hb;exact .inr ⟨id,hb⟩
 rw [e] at hb;simp [bQ] at hb
theorem lJ.sub {ρ':RM} {π':PM} {h h' h'':Nat→Ob} {A':E.α} {S':Nat→Prop} {w':World} (H:lJ E π ρ h S w π' ρ' h' A' S' w') (hs:Sub h'' h'):lJ E π ρ h S w π' ρ' h'' A' S' w':=
 ⟨H.rel.sub hs,⟨H.trans.size,H.trans.os,H.trans.tape,H.trans.output,H.trans.keep,H.trans.le,fun b hb=>H.trans.own b (Own.sub hs hb)⟩,H.step,hs.wf⟩
def Fin (Pg:Program) {E:Env Pg} (fn:Func) (R:cL E→Prop) (σ:Sg E):Prop:=σ.df=[]∧∃c g,fH Pg σ.h σ.fr fn.results.toList=some (c,g)∧c ∧
 ∃g' h',(g'=g∨∃c' v,toP σ.h g=some (c',v)∧c'∧g' = .p v)∧Sub h' σ.h∧(∀id,g'.men id=true→h' id ≠ .none)∧R (.ok g' h' σ.A)
def aCY (Pg:Program) {E:Env Pg} (fn:Func) (R:cL E→Prop):GE→Sg E→Prop
 |.normal,σ=>Fin Pg fn R σ
 |.ret,σ=>Fin Pg fn R σ
 |.panic p,σ=>σ.df=[]∧∃h',Sub h' σ.h∧R (.panic p h' σ.A)
 |_,_=>False
theorem St.start {f:FuncId} {args:List G} {h:Nat→Ob} {A:E.α} {N:Nat} {vs:List Value} (hR:Rel E π ρ h A S w) (hv:aR π ρ E.yv args vs) (hN:args.length≤N) (w1:∀g∈args,∀id,g.men id=true→h id ≠ .none)
  (w2:∀j id,(h j).men id=true→h id ≠ .none):St (⟨Own ρ h S,w,π,ρ,N,100,by omega⟩:Cx E) ⟨aBW args,h,A,[]⟩ { tmps:=⟨vs⟩++Array.replicate (N - (Array.mk vs).size) undef,defers:=[] } w π ρ S where
 size:=by
  have:=hv.length
  simp only [Array.size_append,List.size_toArray,Array.size_replicate]
  omega
 vals:=fun t=>by
  have hl:=hv.length
  simp only [aBW]
  by_cases ht:t<args.length
  ·obtain ⟨u,hu,hr⟩:=hv.get t args[t] (by simp [ht])
   have e1:args.getD t .undef=args[t]:=by simp [List.getD,ht]
   rw [e1]
   have:(⟨vs⟩++Array.replicate (N - (Array.mk vs).size) undef:Array Value).getD t undef=u:=by
    rw [Array.getD_eq_getD_getElem?,Array.getElem?_append_left (by simp;omega)]
    simp [hu]
   rw [this];exact hr
  have e1:args.getD t .undef = .undef:=by simp [List.getD,List.getElem?_eq_none (Nat.le_of_not_lt ht)]
  rw [e1]
  simp only [aK]
 defs:=rfl
 rel:=hR
 trans:=cH.refl _ _ _
 step:=fun _ _=>.inl rfl
 wfr:=fun t id hm=>by
  simp only [aBW] at hm
  by_cases ht:t<args.length
  ·have e1:args.getD t .undef=args[t]:=by simp [List.getD,ht]
   rw [e1] at hm
   exact w1 _ (List.getElem_mem ht) id hm
  have e1:args.getD t .undef = .undef:=by simp [List.getD,List.getElem?_eq_none (Nat.le_of_not_lt ht)]
  rw [e1] at hm;simp [G.men] at hm
 wfh:=w2
 wfd:=fun g hg=>by cases hg
theorem aK2 {f:FuncId} {fn:Func} {c:Code} {args:List G} {h:Nat→Ob} {A:E.α} {R:cL E→Prop} (hf:Pg.funcs[f]? = some fn) (hb:fn.body=some c) (hN:args.length≤fn.ntmps) (w1:∀g∈args,∀id,g.men id=true→h id ≠ .none)
  (w2:∀j id,(h j).men id=true→h id ≠ .none) (hbody:∀C:Cx E,C.N=fn.ntmps→C.lim=100→gwp C none c (aCY Pg fn R) ⟨aBW args,h,A,[]⟩):bD E f args h A R:=by
 intro π ρ S w vs hR hv
 refine callsIn_of_wp hf hb trivial ?_
 have hs:=St.start (f:=f) hR hv hN w1 w2
 refine wpIn_mono ((hbody ⟨Own ρ h S,w,π,ρ,fn.ntmps,100,by omega⟩ rfl rfl).run _ _ ⟨π,ρ,S,hs⟩) fun e a' w' k=>?_
 have fin:∀σ,Holds (⟨Own ρ h S,w,π,ρ,fn.ntmps,100,by omega⟩:Cx E) σ a' w'→Fin Pg fn R σ→a'.defers=[]∧∃v,(results fn a'.tmps).run Pg w' = .ok v w'∧qE E π ρ h S w R (.returned v) w':=fun σ ⟨π',ρ',S',H⟩ ⟨hdf,c,g,hg,hc,g',h',hgg,hs,hm',hR⟩=>by
  have hd:=H.defs
  rw [hdf] at hd
  obtain ⟨⟨v,hv,hr⟩,hm⟩:=aA0 H hg hc
  have hr':aK π' ρ' E.yv g' v:=by
   rcases hgg with rfl|⟨c',p,h1,h2,rfl⟩
   ·exact hr
   simp only [aK];exact fJ H.rel h1 h2 hr
  exact ⟨hd,v,hv,π',ρ',h',σ.A,S',g',lJ.sub ⟨H.rel,H.trans,H.step,H.wfh⟩ hs,hr',hm',hR⟩
 cases e with
 |normal=>obtain ⟨σ,H,hq⟩:=k;exact fin σ H hq
 |ret=>obtain ⟨σ,H,hq⟩:=k;exact fin σ H hq
 |panic ch=>
  obtain ⟨σ,p,v,π',ρ',S',e,hp,H,hdf,h',hs,hq⟩:=k
  have hd:=H.defs
  rw [hdf] at hd
  exact ⟨hd,π',ρ',h',σ.A,S',p,v,lJ.sub ⟨H.rel,H.trans,H.step,H.wfh⟩ hs,e,hp,hq⟩
 |exit id=>obtain ⟨σ,_,hq⟩:=k;exact hq.elim
 |goto l=>obtain ⟨σ,_,hq⟩:=k;exact hq.elim
 |outgrown=>exact k.elim
def Le (C:Cx E) (σ σ':Sg E):Prop:=∀a w,Holds C σ a w→Holds C σ' a w
theorem Le.trans {σ σ' σ'':Sg E} (h:Le C σ σ') (k:Le C σ' σ''):Le C σ σ'':=fun a w H=>k a w (h a w H)
theorem oC {c:Code} {Q:GE→Sg E→Prop} {σ':Sg E} (h:Le C σ σ') (k:gwp C r c Q σ'):gwp C r c Q σ:=⟨fun a w H=>k.run a w (h a w H)⟩
theorem aCZ {ops:Array Oper} {l:List Oper} {Q:GE→Sg E→Prop} {σ':Sg E} (h:Le C σ σ') (k:cK C r ops Q l σ'):cK C r ops Q l σ:=⟨fun a w H=>k.run a w (h a w H)⟩
theorem Le.regs {fr:Nat→G} (h:∀t,fr t=σ.fr t∨fr t = .undef∨∃c p,toP σ.h (σ.fr t)=some (c,p)∧c∧fr t = .p p):Le C σ { σ with fr:=fr }:=fun a w ⟨π,ρ,S,H⟩=>
 ⟨π,ρ,S,H.size,fun t=>by
  show aK π ρ E.yv (fr t) _
  rcases h t with e|e|⟨c,p,h1,h2,e⟩
  ·rw [e];exact H.vals t
  ·rw [e];simp only [aK]
  ·rw [e];simp only [aK];exact fJ H.rel h1 h2 (H.vals t),H.defs,H.rel,H.trans,H.step,fun t id hm=>by
  replace hm:(fr t).men id=true:=hm
  rcases h t with e|e|⟨c,p,h1,h2,e⟩
  ·rw [e] at hm;exact H.wfr t id hm
  ·rw [e] at hm;simp [G.men] at hm
  rw [e] at hm;simp [G.men] at hm,H.wfh,H.wfd⟩
theorem Le.drop {h:Nat→Ob} (h1:∀id,h id=σ.h id∨h id = .none) (h2:∀t id,(σ.fr t).men id=true→h id ≠ .none) (h3:∀j id,(h j).men id=true→h id ≠ .none) (h4:∀g∈σ.df,∀id,g.men id=true→h id ≠ .none):Le C σ { σ with h:=h }:=
 fun a w ⟨π,ρ,S,H⟩=>by
  have hl:∀i b,bQ ρ i (h i)=some b→bQ ρ i (σ.h i)=some b:=fun i b hb=>by
   rcases h1 i with e|e
   ·rwa [e] at hb
   rw [e] at hb;simp [bQ] at hb
  refine ⟨π,ρ,S,H.size,H.vals,H.defs,⟨H.rel.know,fun id=>?_,fun i j b hij hi hj=>H.rel.apart i j b hij (hl i b hi) (hl j b hj),fun i b hi=>H.rel.sep i b (hl i b hi),H.rel.res,H.rel.inb,H.rel.gl⟩,
   ⟨H.trans.size,H.trans.os,H.trans.tape,H.trans.output,H.trans.keep,H.trans.le,fun b hb=>H.trans.own b ?_⟩,H.step,h2,h3,h4⟩
  ·rcases h1 id with e|e
   ·show kI π ρ E.yv w id (h id)
    rw [e];exact H.rel.objs id
   show kI π ρ E.yv w id (h id)
   rw [e];trivial
  rcases hb with hb|⟨id,hb⟩
  ·exact .inl hb
  exact .inr ⟨id,hl id b hb⟩
end
section
open Go.RowKit
variable {Pg:Program} [Kn Pg] {E:Env Pg} {C:Cx E} {r:Option Nat} {ops:Array Oper} {Q:GE→Sg E→Prop} {rest:List Oper} {l:List (Nat×G)} {m:List (Nat×Ob)} {A:E.α} {df:List GD}
def bA:List (Nat×G)→Nat→G
 |[]=>fun _=>.undef
 |(t,g)::l=>upd (bA l) t g
def aG:List (Nat×Ob)→Nat→Ob
 |[]=>fun _=>.none
 |(i,o)::l=>upd (aG l) i o
abbrev sg (l:List (Nat×G)) (m:List (Nat×Ob)) (A:E.α) (df:List GD):Sg E:=⟨bA l,aG m,A,df⟩
theorem aT (t:Nat) (g:G) (l:List (Nat×G)) (k:Nat):bA ((t,g)::l) k=if k=t then g else bA l k:=rfl
theorem eZ (k:Nat):bA [] k = .undef:=rfl
theorem aF (t:Nat) (g:Ob) (l:List (Nat×Ob)) (k:Nat):aG ((t,g)::l) k=if k=t then g else aG l k:=rfl
theorem aI (k:Nat):aG [] k = .none:=rfl
theorem yB {σ:Sg E} {o:Oper} {mu:Bool} {d:Nat} {c:Prop} {out:Out} {K:Sg E→Prop} (hw:dO ops σ.fr o=some true)
  (hg:cZ Pg mu d (gev σ.fr) σ.h o.op=some (c,out)) (hc:c) (hd:σ.h d = .none) (hd2:C.lim≤d) (hdst:∀t,o.dst=some t→t<C.N) (hk:K (σ.put o.dst out.val out.put.toList)):qV C r ops o σ K Q:=by
 intro a w ⟨π,ρ,S,H⟩ K' hK
 have hwt:=fQ H hw
 unfold wpO
 rw [hwt]
 simp only [if_true]
 refine ⟨fun f' hf'=>(by rw [aAP hg] at hf';cases hf'),?_⟩
 have hy:=aGm (dst:=o.dst) (ty:=o.type) (pos:=o.pos) (after:=o.after) (guard:=o.guard) H.rel (fP H) hd
  (fun j=>by
   cases hm:(σ.h j).men d with
   |false=>rfl
   |true=>exact absurd hd (H.wfh j d hm))
  (fun x=>by
   cases hm:(gev σ.fr x).men d with
   |false=>rfl
   |true=>exact absurd hd (uG H x d hm)) hg hc
 obtain ⟨nx,w',v,hrun,hnx,hp⟩:=hy
 have hlv:Lv (fun id=>σ.h id ≠ .none) out:=aGq (L:=fun id=>σ.h id ≠ .none) H.wfh (uG H) hg
 have hfin:=hK _ _ _ hk (H.after hd hd2 hp hlv hdst)
 have hsem:Oper.semAt (MF Pg r).round a.eval o=execOp a.eval o:=by
  cases r with
  |none=>rfl
  |some l=>exact Oper.semAt_some l _ _ fun cl hcl=>by rw [hcl] at hg;simp [cZ] at hg
 rw [hsem]
 have:execOp a.eval o=execOp a.eval ⟨o.dst,o.op,o.type,o.pos,o.after,o.guard⟩:=rfl
 rw [this,hrun]
 rcases hnx with rfl|⟨rfl,rfl⟩
 ·exact hfin
 exact hfin
theorem bN {fr:Nat→G} {o:Oper} (h:o.guard=none):dO ops fr o=some true:=by simp [dO,h]
theorem lA {fr:Nat→G} {o:Oper} {j t:Nat} {b x:Bool} (h:o.guard=some (j,b)) (hj:(ops[j]?).bind (·.dst)=some t) (hx:fr t = .p (.bool x)):dO ops fr o=some (x==b):=by
 simp [dO,h,hj,hx]
theorem aIZ {fr:Nat→G} {o:Oper} {j t:Nat} {b:Bool} (h:o.guard=some (j,b)) (hj:(ops[j]?).bind (·.dst)=some t) (hx:fr t = .p (.tuple [])):dO ops fr o=some false:=by
 simp [dO,h,hj,hx]
section
variable {t:Nat} {op:Op} {ty:TypeId} {pos:String} {af:Array Edge} {mu:Bool} {c:Prop} {g:G} {ob:Ob} {i:Nat} {gd:Option (Nat×Bool)}
theorem aK3 (hw:dO ops (bA l) ⟨some t,op,ty,pos,af,gd⟩=some true) (hg:cZ Pg false 99999 (gev (bA l)) (aG m) op=some (c,⟨g,none⟩)) (hd:aG m 99999 = .none) (ht:t<C.N) (hc:c) (k:cK C r ops Q rest (sg ((t,g)::l) m A df)) :
  cK C r ops Q (⟨some t,op,ty,pos,af,gd⟩::rest) (sg l m A df):=
 pN (yB hw hg hc hd (by have:=C.limOk;omega) (fun t' e=>by cases e;exact ht) k)
theorem aOC (d:Nat) (mu:Bool) (hw:dO ops (bA l) ⟨some t,op,ty,pos,af,gd⟩=some true) (hg:cZ Pg mu d (gev (bA l)) (aG m) op=some (c,⟨g,some (i,ob)⟩)) (hd:aG m d = .none) (hd2:C.lim≤d) (ht:t<C.N) (hc:c)
  (k:cK C r ops Q rest (sg ((t,g)::l) ((i,ob)::m) A df)):cK C r ops Q (⟨some t,op,ty,pos,af,gd⟩::rest) (sg l m A df):=
 pN (yB hw hg hc hd hd2 (fun t' e=>by cases e;exact ht) k)
theorem aPz (hw:dO ops (bA l) ⟨none,op,ty,pos,af,gd⟩=some true) (hg:cZ Pg false 99999 (gev (bA l)) (aG m) op=some (c,⟨g,some (i,ob)⟩)) (hd:aG m 99999 = .none) (hc:c)
  (k:cK C r ops Q rest (sg l ((i,ob)::m) A df)):cK C r ops Q (⟨none,op,ty,pos,af,gd⟩::rest) (sg l m A df):=
 pN (yB hw hg hc hd (by have:=C.limOk;omega) (fun t' e=>by cases e) k)
theorem aOD (hw:dO ops (bA l) ⟨some t,op,ty,pos,af,gd⟩=some false) (ht:t<C.N) (k:cK C r ops Q rest (sg ((t,.p (.tuple []))::l) m A df)):cK C r ops Q (⟨some t,op,ty,pos,af,gd⟩::rest) (sg l m A df):=
 jW (aIQ hw fun t' e=>by cases e;exact ht) k
theorem qW {x:G} (hx:bA l t=x):bA ((t,x)::l)=bA l:=funext fun k=>by
 rw [aT]
 split
 ·rename_i e;subst e;exact hx.symm
 rfl
theorem aPA (t:Nat) {x:Bool} {lst:List Oper} (hx:bA l t = .p (.bool x)) (k1:x=true→cK C r ops Q lst (sg ((t,.p (.bool true))::l) m A df)) (k0:x=false→cK C r ops Q lst (sg ((t,.p (.bool false))::l) m A df)):cK C r ops Q lst (sg l m A df):=by
 cases x
 ·have:=k0 rfl
  rwa [sg,qW hx] at this
 have:=k1 rfl
 rwa [sg,qW hx] at this
end
variable {c:Code}
theorem aI0 {x:Operand} {y z:Code} (hb:gev (bA l) x = .p (.bool true)) (k:gwp C r y Q (sg l m A df)):gwp C r (.cond x y z) Q (sg l m A df):=aAV hb (fun _=>k) fun e=>by cases e
theorem aI1 {x:Operand} {y z:Code} (hb:gev (bA l) x = .p (.bool false)) (k:gwp C r z Q (sg l m A df)):gwp C r (.cond x y z) Q (sg l m A df):=aAV hb (fun e=>by cases e) fun _=>k
theorem aK4 {x:Operand} {y z:Code} {b:Bool} (hb:gev (bA l) x = .p (.bool b)) (k1:b=true→gwp C r y Q (sg l m A df)) (k0:b=false→gwp C r z Q (sg l m A df)):gwp C r (.cond x y z) Q (sg l m A df):=aAV hb k1 k0
def num:Nat→List G→List (Nat×G)
 |_,[]=>[]
 |k,g::gs=>(k,g)::num (k+1) gs
theorem aDY:∀(gs:List G) (k t:Nat),bA (num k gs) t=if t<k then .undef else gs.getD (t - k) .undef
 |[],k,t=>by simp [num,bA]
 |g::gs,k,t=>by
  simp only [num,aT,aDY gs (k+1) t]
  by_cases h1:t=k
  ·subst h1;simp
  simp only [if_neg h1]
  by_cases h2:t<k
  ·rw [if_pos h2,if_pos (by omega)]
  rw [if_neg h2,if_neg (by omega)]
  have:t - k=(t - (k+1))+1:=by omega
  rw [this]
  simp
theorem wO (gs:List G):aBW gs=bA (num 0 gs):=funext fun t=>by rw [aDY];simp [aBW]
theorem aGr {f:FuncId} {fn:Func} {args:List G} {R:cL E→Prop} (hf:Pg.funcs[f]? = some fn) (hb:fn.body=some c) (hN:args.length≤fn.ntmps) (w1:∀id,G.mens id args=true→aG m id ≠ .none)
  (w2:∀j id,(aG m j).men id=true→aG m id ≠ .none) (hbody:∀C:Cx E,C.N=fn.ntmps→C.lim=100→gwp C none c (aCY Pg fn R) (sg (num 0 args) m A [])):bD E f args (aG m) A R:=
 aK2 hf hb hN (fun g hg id hm=>w1 id (cC.2 ⟨g,hg,hm⟩)) w2 fun C hC hL=>by
  have:=hbody C hC hL
  rw [sg,←wO] at this
  exact this
theorem cJ (I:Nat→Sg E→Prop) {σ:Sg E} (h₀:∃n₀ σ',Le C σ σ'∧I n₀ σ') (round:∀n σ,I n σ→gwp C r c (rT (fun σ'=>∃n' σ'',n'<n∧Le C σ' σ''∧I n' σ'') Q) σ):gwp C r (.loop c) Q σ:=by
 obtain ⟨n₀,h₀⟩:=h₀
 refine aIS (fun n σ=>∃σ',Le C σ σ'∧I n σ') n₀ h₀ fun n σ ⟨σ',hle,hI⟩=>oC hle (qC (round n σ' hI) fun e σ2 h=>?_)
 cases e with
 |normal=>obtain ⟨n',σ3,h1,h2,h3⟩:=h;exact ⟨n',h1,σ3,h2,h3⟩
 |_=>exact h
theorem aI2 (vs:List Nat) {l':List (Nat×G)} (hl:(vs.map fun v=>(v,bA l v))=l'):Le C (sg l m A df:Sg E) (sg l' m A df):=by
 refine Le.regs fun t=>?_
 subst hl
 have:∀(vs:List Nat),bA (vs.map fun v=>(v,bA l v)) t=bA l t∨bA (vs.map fun v=>(v,bA l v)) t = .undef:=fun vs=>by
  induction vs with
  |nil=>exact .inr rfl
  |cons v vs ih=>
   rw [List.map_cons,aT]
   split
   ·rename_i e;subst e;exact .inl rfl
   exact ih
 rcases this vs with e|e
 ·exact .inl e
 exact .inr (.inl e)
theorem aC0 {h:Nat→Ob}:Sub (aG []) h:=⟨fun _=>.inr rfl,fun j id hm=>by simp [aG,Ob.men] at hm⟩
theorem aI3 {fn:Func} {R:cL E→Prop} {d:Prop} {g:G} {v:P} (hg:fH Pg (aG m) (bA l) fn.results.toList=some (d,g)) (hd:d) {d':Prop} (hp:toP (aG m) g=some (d',v)) (hd':d') (hR:R (.ok (.p v) (aG []) A)):Fin Pg fn R (sg l m A []):=
 ⟨rfl,d,g,hg,hd,.p v,aG [],.inr ⟨d',v,hp,hd',rfl⟩,aC0,fun id hm=>by simp [G.men] at hm,hR⟩
theorem aCe {fn:Func} {R:cL E→Prop} {v:P} (hR:R (.panic v (aG []) A)):aCY Pg fn R (.panic v) (sg l m A []):=⟨rfl,aG [],aC0,hR⟩
theorem aM {fn:Func} {R:cL E→Prop} {σ:Sg E} (h:Fin Pg fn R σ):aCY Pg fn R .ret σ:=h
theorem cW {fn:Func} {R:cL E→Prop} {σ:Sg E} (h:Fin Pg fn R σ):aCY Pg fn R .normal σ:=h
theorem aH {K:Sg E→Prop} {σ:Sg E} (h:Q .ret σ):rT K Q .ret σ:=h
theorem aE {id:Nat} {σ:Sg E} (h:Q .ret σ):nZ id Q .ret σ:=h
theorem aO {K:Sg E→Prop} {p:P} {σ:Sg E} (h:Q (.panic p) σ):rT K Q (.panic p) σ:=h
theorem aN {id:Nat} {p:P} {σ:Sg E} (h:Q (.panic p) σ):nZ id Q (.panic p) σ:=h
theorem bI {K:Sg E→Prop} {i:Nat} {σ:Sg E} (h:Q (.exit i) σ):rT K Q (.exit i) σ:=h
theorem bC {id:Nat} {σ:Sg E} (h:Q .normal σ):nZ id Q (.exit id) σ:=by simpa [nZ] using h
theorem bJ {id i:Nat} {σ:Sg E} (hi:(i==id)=false) (h:Q (.exit i) σ):nZ id Q (.exit i) σ:=by
 have:i≠id:=by simpa using hi
 simpa [nZ,this] using h
theorem bZ {id:Nat} {σ:Sg E} (h:Q .normal σ):nZ id Q .normal σ:=h
end
section
open Go.RowKit
variable {Pg:Program} [Kn Pg] {E:Env Pg} {C:Cx E} {r:Option Nat} {ops:Array Oper} {Q:GE→Sg E→Prop} {l:List (Nat×G)} {m:List (Nat×Ob)} {A:E.α} {df:List GD} {σ σ0:Sg E}
def wQ (o:Oper):List Nat:=o.after.toList.filterMap fun e=>if Region.binds .any e then some e.on else none
def aI4 (tab:List Nat) (o:Oper):Nat:=(wQ o).foldl (fun a j=>a ||| (1 <<< j) ||| tab.getD j 0) 0
def aC1 (l:List Oper) (o:Oper):List Nat:=(o.op.operands.toList.filterMap fun|.tmp t=>some t|_=>none) ++
 (match o.guard with
  |some (g,_)=>((l[g]?).bind (·.dst)).toList
  |none=>[])
def aA1 (l:List Oper) (oi oj:Oper) (di dj:List Nat×List Nat):Bool:=
 (match oi.dst with|some d=>!(aC1 l oj).contains d&&oj.dst != some d|none=>true) &&
 (match oj.dst with|some d=>!(aC1 l oi).contains d|none=>true) &&
 di.2.all (fun x=>!dj.1.contains x && !dj.2.contains x)&&dj.2.all (fun x=>!di.1.contains x)
def oD (tab:List Nat):List Oper→Nat→Bool
 |[],_=>true
 |o::l,j=>(wQ o).all (· < j)&&(tab.getD j 0==aI4 tab o)&&oD tab l (j+1)
def aFd (tab:List Nat) (lo n:Nat) (size:Nat):Bool:=(List.range (size - (lo+n))).all fun k=>(List.range n).all fun i=>(tab.getD (lo+n+k) 0).testBit (lo+i)
def aI5 (tab:List Nat) (l:List Oper) (lo:Nat) (ids:List (List Nat×List Nat)):Bool:=
 (List.range ids.length).all fun j=>(List.range j).all fun i=>(tab.getD (lo+j) 0).testBit (lo+i) ||
  (match l[lo+i]?,l[lo+j]?,ids[i]?,ids[j]? with
   |some oi,some oj,some di,some dj=>aA1 l oi oj di dj
   |_,_,_,_=>false)
def Bef (n:Nat) (tab:List Nat) (i j:Nat):Prop:=j<n∧(tab.getD j 0).testBit i=true
theorem yC {tab:List Nat}:∀ {l:List Oper} {k:Nat},oD tab l k=true→∀j o,l[j]? = some o→(∀e∈wQ o,e<k+j)∧tab.getD (k+j) 0=aI4 tab o
 |[],k,_,j,o,h=>by simp at h
 |o'::l,k,hw,j,o,h=>by
  simp only [oD,Bool.and_eq_true,List.all_eq_true,decide_eq_true_eq,beq_iff_eq] at hw
  cases j with
  |zero=>
   simp at h;subst h
   exact ⟨fun e he=>by have:=hw.1.1 e he;omega,by simpa using hw.1.2⟩
  |succ j=>
   simp at h
   have:=yC hw.2 j o h
   rw [show k+(j+1)=k+1+j by omega]
   exact this
theorem aA2 {tab:List Nat} {i:Nat}:∀(l:List Nat) (a:Nat),(l.foldl (fun a j=>a ||| (1 <<< j) ||| tab.getD j 0) a).testBit i=true→a.testBit i=true∨∃j∈l,i=j∨(tab.getD j 0).testBit i=true
 |[],a,h=>.inl h
 |j::l,a,h=>by
  rcases aA2 l _ h with h1|⟨k,hk,h1⟩
  ·simp only [Nat.testBit_or,Bool.or_eq_true] at h1
   rcases h1 with (h1|h1)|h1
   ·exact .inl h1
   ·right
    refine ⟨j,by simp,.inl ?_⟩
    simp only [Nat.one_shiftLeft,Nat.testBit_two_pow,decide_eq_true_eq] at h1
    exact h1.symm
   exact .inr ⟨j,by simp,.inr h1⟩
  exact .inr ⟨k,by simp [hk],h1⟩
theorem zP {o:Oper} {k:Nat}:k∈wQ o↔∃e∈o.after,Region.binds .any e=true∧e.on=k:=by
 simp only [wQ,List.mem_filterMap,Array.mem_toList_iff]
 constructor
 ·rintro ⟨e,he,h⟩
  split at h
  ·rename_i hb;cases h;exact ⟨e,he,hb,rfl⟩
  cases h
 rintro ⟨e,he,hb,rfl⟩
 exact ⟨e,he,by rw [if_pos hb]⟩
theorem aAT.of {tab:List Nat} (h:oD tab ops.toList 0=true):aAT ops (Bef ops.size tab) where
 low:=fun j o ho e he hb=>by
  have:=(yC h j o (by simpa using ho)).1 e.on (zP.2 ⟨e,he,hb,rfl⟩)
  omega
 up:=fun i j ⟨hj,hb⟩=>by
  have ho:ops[j]? = some ops[j]:=Array.getElem?_eq_getElem hj
  refine ⟨ops[j],ho,?_⟩
  have hw:=yC h j ops[j] (by simp)
  have:=hw.2
  rw [Nat.zero_add] at this
  rw [this] at hb
  rcases aA2 _ _ hb with h1|⟨k,hk,h1⟩
  ·simp at h1
  obtain ⟨e,he,hbe,rfl⟩:=zP.1 hk
  have hlt:=hw.1 e.on hk
  exact ⟨e,he,hbe,h1.imp Eq.symm fun hx=>⟨by omega,hx⟩⟩
theorem aCf (o:Oper):aC1 ops.toList o=o.looksAt ops:=by
 simp only [aC1,Oper.looksAt,Array.getElem?_toList]
 rfl
structure eT (C:Cx E) (r:Option Nat) (ops:Array Oper) (Q:Exit→Act→World→Prop) (lo:Nat) (σ0:Sg E) (ids:List (List Nat×List Nat)) (σ:Sg E):Prop where
 run:(∃R:Nat→Rec,(∀m x,ids[m]? = some x→(R (lo+m)).I=x.1∧(R (lo+m)).ps.map (·.1)=x.2) ∧
  (∀m,m<ids.length→∃o,ops[lo+m]? = some o∧(R (lo+m)).dst=o.dst∧Eff C r ops o (cD R lo σ0 (fun _=>true) m) (R (lo+m)).I (R (lo+m)).g (R (lo+m)).ps) ∧
  cD R lo σ0 (fun _=>true) ids.length=σ)→qB C r ops Q lo σ0
variable {QE:Exit→Act→World→Prop} {lo:Nat} {ids:List (List Nat×List Nat)}
theorem eT.start (h:eT C r ops QE lo σ [] σ):qB C r ops QE lo σ:=
 h.run ⟨fun _=>⟨none,.undef,[],[]⟩,fun m x hx=>by simp at hx,fun m hm=>by simp at hm,rfl⟩
theorem pF {R R':Nat→Rec} {X:Nat→Bool}:∀m,(∀k,k<m→R (lo+k)=R' (lo+k))→cD R lo σ X m=cD R' lo σ X m
 |0,_=>rfl
 |m+1,h=>by
  simp only [cD,pF m fun k hk=>h k (by omega),h m (by omega)]
theorem eT.step {o:Oper} {I:List Nat} {g:G} {ps:List (Nat×Ob)} {n:Nat} {pi:List Nat} (hn:ids.length=n) (ho:ops[lo+n]? = some o) (he:Eff C r ops o σ I g ps) (hps:ps.map (·.1)=pi) (h:eT C r ops QE lo σ0 (ids++[(I,pi)]) (σ.put o.dst g ps)) :
  eT C r ops QE lo σ0 ids σ:=⟨fun ⟨R,h1,h2,h3⟩=>by
 subst hn
 subst hps
 let R':Nat→Rec:=fun k=>if k=lo+ids.length then ⟨o.dst,g,ps,I⟩ else R k
 have hR:∀k,k<ids.length→R (lo+k)=R' (lo+k):=fun k hk=>by simp only [R'];rw [if_neg (by omega)]
 have hRn:R' (lo+ids.length)=⟨o.dst,g,ps,I⟩:=by simp only [R',if_true]
 have hst:∀m,m≤ids.length→cD R' lo σ0 (fun _=>true) m=cD R lo σ0 (fun _=>true) m:=fun m hm=>(pF m fun k hk=>hR k (by omega)).symm
 refine h.run ⟨R',fun m x hx=>?_,fun m hm=>?_,?_⟩
 ·by_cases hm:m<ids.length
  ·rw [List.getElem?_append_left hm] at hx
   rw [←hR m hm]
   exact h1 m x hx
  rw [List.getElem?_append_right (by omega)] at hx
  have:m=ids.length:=by
   have:=(List.getElem?_eq_some_iff.1 hx).1
   simp at this;omega
  subst this
  simp at hx;subst hx
  rw [hRn]
  exact ⟨rfl,rfl⟩
 ·by_cases hm':m<ids.length
  ·rw [←hR m hm',hst m (by omega)]
   exact h2 m hm'
  have:m=ids.length:=by simp at hm;omega
  subst this
  rw [hRn,hst _ (Nat.le_refl _),h3]
  exact ⟨o,ho,rfl,he⟩
 simp only [List.length_append,List.length_cons,List.length_nil,cD,if_true,hRn,hst _ (Nat.le_refl _),h3]⟩
theorem eT.stop {n:Nat} (tab:List Nat) (hn:ids.length=n) (hsz:lo+n≤ops.size) (hw:oD tab ops.toList 0=true) (hc:aFd tab lo n ops.size=true) (hf:aI5 tab ops.toList lo ids=true) (h:qB C r ops QE (lo+n) σ):eT C r ops QE lo σ0 ids σ:=
 ⟨fun ⟨R,h1,h2,h3⟩=>by
 subst hn
 refine aIR (len:=ids.length) (R:=R) hsz (aAT.of hw) (fun j hj hj2 k hk=>?_) (fun i j hij hj=>?_) h2 (by rw [h3];exact h)
 ·simp only [aFd,List.all_eq_true,List.mem_range] at hc
  have:=hc (j - (lo+ids.length)) (by omega) k hk
  rw [show lo+ids.length+(j - (lo+ids.length))=j by omega] at this
  exact ⟨hj2,this⟩
 simp only [aI5,List.all_eq_true,List.mem_range,Bool.or_eq_true] at hf
 rcases hf j hj i hij with hb|hb
 ·exact .inl ⟨by omega,hb⟩
 right
 obtain ⟨oi,ho1,e1,_⟩:=h2 i (by omega)
 obtain ⟨oj,ho2,e2,_⟩:=h2 j hj
 have hi':ids[i]? = some ids[i]:=List.getElem?_eq_getElem (by omega)
 have hj':ids[j]? = some ids[j]:=List.getElem?_eq_getElem hj
 obtain ⟨a1,a2⟩:=h1 i _ hi'
 obtain ⟨b1,b2⟩:=h1 j _ hj'
 have ho1':ops.toList[lo+i]? = some oi:=by simpa using ho1
 have ho2':ops.toList[lo+j]? = some oj:=by simpa using ho2
 rw [ho1',ho2',hi',hj'] at hb
 simp only [aA1,Bool.and_eq_true,aCf,List.all_eq_true] at hb
 obtain ⟨⟨⟨c1,c2⟩,c3⟩,c4⟩:=hb
 refine ⟨fun o ho t ht e=>?_,fun o ho t ht e=>?_,fun t ht e=>?_,fun p hp hx=>?_,fun p hp hx=>?_,fun p hp q hq e=>?_⟩
 ·rw [ho2] at ho;cases ho
  rw [←e1,e] at c1
  simp at c1
  exact c1.1 ht
 ·rw [ho1] at ho;cases ho
  rw [←e2,e] at c2
  simp at c2
  exact c2 ht
 ·rw [←e1,ht] at c1
  rw [←e2,e] at c1
  simp at c1
 ·have:=c3 p.1 (by rw [←a2];exact List.mem_map.2 ⟨p,hp,rfl⟩)
  rw [b1] at hx
  simp at this
  exact this.1 hx
 ·have:=c4 p.1 (by rw [←b2];exact List.mem_map.2 ⟨p,hp,rfl⟩)
  rw [a1] at hx
  simp at this
  exact this hx
 have:=c3 p.1 (by rw [←a2];exact List.mem_map.2 ⟨p,hp,rfl⟩)
 simp at this
 refine this.2 ?_
 rw [←b2,e]
 exact List.mem_map.2 ⟨q,hq,rfl⟩⟩
theorem aHi {o:Oper} (tab:List Nat) {Q:GE→Sg E→Prop} (ho:ops[lo]? = some o) (hw:oD tab ops.toList 0=true) (hc:aFd tab lo 1 ops.size=true) (he:qV C r ops o σ (qB C r ops (cE C Q) (lo+1)) Q):qB C r ops (cE C Q) lo σ:=
 aIV ho (aAT.of hw) (fun j hj hj2=>by
  simp only [aFd,List.all_eq_true,List.mem_range] at hc
  have:=hc (j - (lo+1)) (by omega) 0 (by omega)
  rw [show lo+1+(j - (lo+1))=j by omega] at this
  exact ⟨hj2,this⟩) he
inductive dT where
 |ok (v:P)
 |panic (v:P)
def dT.at (E:Env Pg) (m:List (Nat×Ob)) (A:E.α):dT→cL E
 |.ok v=>cL.ok (G.p v) (aG m) A
 |.panic v=>cL.panic v (aG m) A
def bF (Pg:Program) [Kn Pg] (f:FuncId) (args:List P) (x:dT):Prop:=∀(E:Env Pg) (A:E.α),bD E f (args.map .p) (aG []) A fun y=>y=dT.at E [] A x
theorem gX (θ:Nat→Nat):∀(ps:List P),G.rens θ (ps.map .p)=ps.map .p
 |[]=>rfl
 |p::ps=>by simp only [List.map_cons,G.rens,G.ren,gX θ ps]
theorem aCg {N:Nat} {h:Nat→Ob}:kZ N [] h (aG []):=⟨List.nodup_nil,List.nodup_nil,fun i hi=>absurd rfl hi,fun i j hm=>by cases hm⟩
theorem vR:gK [] (aG []) (aG []):=⟨fun i hi=>absurd rfl hi,fun i hi=>absurd rfl hi⟩
theorem uH {o:Oper} {cl:Call} {f:FuncId} {gs:List G} {J:List Nat} {c:Prop} {args:List P} {v:P} (ho:o.op = .call cl) (hw:dO ops σ.fr o=some true) (hg:cI Pg σ.fr cl=some (f,gs)) (hent:aJ Pg f)
  (hcv:oB (rhp σ.h J) gs=(c,args.map .p)) (hcc:c) (spec:bF Pg f args (.ok v)) (hdst:∀t,o.dst=some t→t<C.N):Eff C r ops o σ J (.p v) []:=by
 have:=aIX (C:=C) (r:=r) (ops:=ops) (o:=o) (cl:=cl) (g:=.p v) (h':=aG []) ho hw hg hent (hcv.trans (by rw [gX])) hcc aCg (fun p hp=>by cases hp) (spec E σ.A) vR hdst
 simpa [G.ren,cR] using this
theorem aFe {o:Oper} {cl:Call} {f:FuncId} {gs:List G} {J:List Nat} {c:Prop} {args:List P} {x:dT} {K:Sg E→Prop} {Q:GE→Sg E→Prop} (ho:o.op = .call cl) (hw:dO ops σ.fr o=some true) (hg:cI Pg σ.fr cl=some (f,gs)) (hent:aJ Pg f)
  (hcv:oB (rhp σ.h J) gs=(c,args.map .p)) (hcc:c) (spec:bF Pg f args x) (hdst:∀t,o.dst=some t→t<C.N) (hok:∀v,x = .ok v→K (σ.put o.dst (.p v) [])) (hpa:∀v,x = .panic v→Q (.panic v) σ):qV C r ops o σ K Q:=by
 refine aHh (L:=[]) (hc:=aG []) ho hw hg hent (hcv.trans (by rw [gX])) hcc aCg (spec E σ.A) (fun g h' A' e=>?_) (fun p h' A' e=>?_) hdst
 ·cases x with
  |ok v=>cases e;exact ⟨vR,hok v rfl⟩
  |panic v=>cases e
 cases x with
 |ok v=>cases e
 |panic v=>cases e;exact ⟨vR,hpa _ rfl⟩
theorem bL {f:FuncId} {fn:Func} {c:Code} {args:List P} {x:dT} (hf:Pg.funcs[f]? = some fn) (hb:fn.body=some c) (hN:Nat.ble args.length fn.ntmps=true)
  (hbody:∀(E:Env Pg) (A:E.α) (C:Cx E),C.N=fn.ntmps→C.lim=100→gwp C none c (aCY Pg fn fun y=>y=dT.at E [] A x) (sg (num 0 (args.map .p)) [] A [])):bF Pg f args x:=fun E A=>
 aGr hf hb (by simpa using Nat.le_of_ble_eq_true hN) (fun id h=>by
  obtain ⟨g,hg,hm⟩:=cC.1 h
  obtain ⟨p,_,rfl⟩:=List.mem_map.1 hg
  simp [G.men] at hm) (fun j id h=>by simp [aG,Ob.men] at h) fun C hC hL=>hbody E A C hC hL
theorem tI:∀(ps:List P),tA (ps.map .p)=some ps
 |[]=>rfl
 |p::ps=>by simp only [List.map_cons,tA,tI ps]
theorem bG:∀(ps:List P),bB (ps.map .p)=ps.all P.one
 |[]=>rfl
 |p::ps=>by simp only [List.map_cons,bB,G.one,bG ps,List.all_cons]
theorem bR {h:Nat→Ob}:∀(ps:List P),cS h (ps.map .p)=True
 |[]=>rfl
 |p::ps=>by simp only [List.map_cons,cS,good,bR ps,and_true]
theorem cA:∀(ps:List P),G.idls (ps.map .p)=[]
 |[]=>rfl
 |p::ps=>by simp only [List.map_cons,G.idls,G.idl,cA ps,List.append_nil]
theorem fV {h:Nat→Ob}:∀(ps:List P),iC h (ps.map .p)=some (True,ps)
 |[]=>rfl
 |p::ps=>by simp only [List.map_cons,iC,toP,fV ps,and_true]
theorem bU {k:IntKind} (l:List Int):(l.map (P.int k)).all P.one=true:=by
 induction l with
 |nil=>rfl
 |cons x l ih=>simp only [List.map_cons,List.all_cons,P.one,ih,Bool.and_true]
theorem oE {α:Type} {l:List α} {n:Nat} (h:l.length=n):l.take n=l:=by rw [←h];exact List.take_length
theorem sgE {l l':List (Nat×G)} {m m':List (Nat×Ob)} (h1:l=l') (h2:m=m'):(sg l m A df:Sg E)=sg l' m' A df:=by rw [h1,h2]
theorem fT {α:Type} {l:List α} {k:Nat} (h:(k:Int)<(l.length:Int)):∃x,l[k]? = some x:=⟨l[k]'(by omega),List.getElem?_eq_getElem _⟩
end
section
open Go.RowKit
variable {Pg:Program} [Kn Pg] {E:Env Pg} {C:Cx E} {r:Option Nat} {ops:Array Oper} {Q:GE→Sg E→Prop} {l:List (Nat×G)} {m:List (Nat×Ob)} {A:E.α} {df:List GD} {σ σ0:Sg E} {c:Code}
def dA:Ob→List Nat
 |.cells cs _=>G.idls cs
 |.tcells _ cs=>G.idls cs
 |_=>[]
def gN:GD→List Nat
 |.call _ args caps=>G.idls args++G.idls caps
 |.mark i=>[i]
def eL:List (Nat×G)→List Nat
 |[]=>[]
 |p::l=>p.2.idl++eL l
def dM:List GD→List Nat
 |[]=>[]
 |d::l=>gN d++dM l
def bO (m:List (Nat×Ob)):List Nat→List Nat
 |[]=>[]
 |i::I=>dA (aG m i)++bO m I
def iS:List Nat→List Nat
 |[]=>[]
 |i::I=>i::(iS I).filter (· ≠ i)
def nF (m:List (Nat×Ob)):List Nat→List (Nat×Ob)
 |[]=>[]
 |i::I=>(i,aG m i)::nF m I
def bS (I:List Nat) (m:List (Nat×Ob)):List (Nat×Ob):=nF m (iS I)
def dP (J I:List Nat):Bool:=J.all fun j=>decide (j∈I)
mutual
theorem aAs {id:Nat}:∀ {g:G},g.men id=true→id∈g.idl
 |.p _,h=>by simp [G.men] at h
 |.nils,h=>by simp [G.men] at h
 |.abs,h=>by simp [G.men] at h
 |.undef,h=>by simp [G.men] at h
 |.agg cs,h=>by simp only [G.men,G.idl] at h ⊢;exact gY h
 |.tuple cs,h=>by simp only [G.men,G.idl] at h ⊢;exact gY h
 |.ptr cs,h=>by simp only [G.men,G.idl] at h ⊢;exact gY h
 |.iface t x,h=>by simp only [G.men,G.idl] at h ⊢;exact aAs h
 |.fn f a b,h=>by
  simp only [G.men,G.idl,Bool.or_eq_true,List.mem_append] at h ⊢
  exact h.imp gY gY
 |.ref i o,h=>by simp only [G.men,G.idl,beq_iff_eq] at h ⊢;simp [h]
 |.own i o,h=>by simp only [G.men,G.idl,beq_iff_eq] at h ⊢;simp [h]
 |.aref i n o,h=>by simp only [G.men,G.idl,beq_iff_eq] at h ⊢;simp [h]
 |.fsl i n o,h=>by simp only [G.men,G.idl,beq_iff_eq] at h ⊢;simp [h]
 |.map i,h=>by simp only [G.men,G.idl,beq_iff_eq] at h ⊢;simp [h]
theorem gY {id:Nat}:∀ {gs:List G},G.mens id gs=true→id∈G.idls gs
 |[],h=>by simp [G.mens] at h
 |g::gs,h=>by
  simp only [G.mens,G.idls,Bool.or_eq_true,List.mem_append] at h ⊢
  exact h.imp aAs gY
end
theorem aHj {id:Nat} {ob:Ob} (h:ob.men id=true):id∈dA ob:=by
 cases ob<;>simp only [Ob.men,Bool.false_eq_true] at h
 ·exact gY h
 exact gY h
theorem aHk {id:Nat} {d:GD} (h:d.men id=true):id∈gN d:=by
 cases d with
 |call f args caps=>
  simp only [GD.men,Bool.or_eq_true,gN,List.mem_append] at h ⊢
  exact h.imp gY gY
 |mark i=>simp only [GD.men,beq_iff_eq] at h;simp [gN,h]
theorem aC2 {id t:Nat}:∀ {l:List (Nat×G)},(bA l t).men id=true→id∈eL l
 |[],h=>by simp [bA,G.men] at h
 |(k,g)::l,h=>by
  rw [aT] at h
  simp only [eL,List.mem_append]
  split at h
  ·exact .inl (aAs h)
  exact .inr (aC2 h)
theorem yD {id:Nat}:∀ {df:List GD} {d:GD},d∈df→d.men id=true→id∈dM df
 |[],d,h,_=>by cases h
 |d'::df,d,h,hm=>by
  simp only [dM,List.mem_append]
  rcases List.mem_cons.1 h with rfl|h
  ·exact .inl (aHk hm)
  exact .inr (yD h hm)
theorem pO {id i:Nat}:∀ {I:List Nat},i∈I→(aG m i).men id=true→id∈bO m I
 |[],h,_=>by cases h
 |j::I,h,hm=>by
  simp only [bO,List.mem_append]
  rcases List.mem_cons.1 h with rfl|h
  ·exact .inl (aHj hm)
  exact .inr (pO h hm)
theorem aA3 {i:Nat}:∀ {I:List Nat},i∈iS I↔i∈I
 |[]=>Iff.rfl
 |j::I=>by
  simp only [iS,List.mem_cons,List.mem_filter,aA3 (I:=I),decide_eq_true_eq]
  by_cases e:i=j
  ·simp [e]
  simp [e]
theorem aGs {id:Nat}:∀ {I:List Nat},aG (nF m I) id=if id∈I then aG m id else .none
 |[]=>by simp [nF,aG]
 |i::I=>by
  rw [nF,aF,aGs (I:=I)]
  by_cases e:id=i
  ·subst e;simp
  simp [e]
theorem dQ {id:Nat} {m:List (Nat×Ob)} {I:List Nat}:aG (bS I m) id=if id∈I then aG m id else .none:=by
 rw [bS,aGs]
 simp only [aA3]
theorem nO (vs:List Nat) {l':List (Nat×G)} {m':List (Nat×Ob)} {I:List Nat} (hl:(vs.map fun v=>(v,bA l v))=l') (hm:bS I m=m') (h1:dP (eL l') I=true) (h2:dP (dM df) I=true) (h3:dP (bO m I) I=true) :
  Le C (sg l m A df:Sg E) (sg l' m' A df):=by
 refine Le.trans (aI2 vs hl) ?_
 simp only [dP,List.all_eq_true,decide_eq_true_eq] at h1 h2 h3
 subst hm
 intro a w hH
 refine Le.drop (σ:=(sg l' m A df:Sg E)) (h:=aG (bS I m)) (fun id=>?_) (fun t id hx=>?_) (fun j id hx=>?_) (fun g hg id hx=>?_) a w hH
 all_goals obtain ⟨π,ρ,S,H⟩:=hH
 ·rw [dQ]
  split
  ·exact .inl rfl
  exact .inr rfl
 ·rw [dQ,if_pos (h1 id (aC2 hx))]
  exact H.wfr t id hx
 ·rw [dQ] at hx ⊢
  split at hx
  ·rename_i hj
   rw [if_pos (h3 id (pO hj hx))]
   exact H.wfh j id hx
  simp [Ob.men] at hx
 rw [dQ,if_pos (h2 id (yD hg hx))]
 exact H.wfd g hg id hx
def zQ (l:List (Nat×G)) (m:List (Nat×Ob)) (df:List GD):List Nat:=eL l++dM df++(bO m (eL l++dM df)++bO m (bO m (eL l++dM df)))
theorem aHl (vs:List Nat) {l':List (Nat×G)} {m':List (Nat×Ob)} {I:List Nat} (hl:(vs.map fun v=>(v,bA l v))=l') (hm:bS I m=m') (h1:dP (eL l') I=true) (h2:dP (dM df) I=true) (h3:dP (bO m I) I=true)
  (k:gwp C r c Q (sg l' m' A df)):gwp C r c Q (sg l m A df):=oC (nO vs hl hm h1 h2 h3) k
theorem aC3:tup [] = .p (.tuple []):=rfl
theorem aC4 (g:G):tup [g]=g:=rfl
theorem aC5 (g g':G) (gs:List G):tup (g::g'::gs)=mkTuple (g::g'::gs):=rfl
end
section
open Go.RowKit
variable {Pg:Program} [Kn Pg] {E:Env Pg} {C:Cx E} {σ:Sg E} {a:Act} {w:World} {π:PM} {ρ:RM} {S:Nat→Prop} {r:Option Nat}
theorem aC6 {h:Nat→Ob} {A:E.α} (R:Rel E π ρ h A S w) {id off n fz:Nat} {cs:List G} (ho:h id = .cells cs fz) (h1:off+n≤fz):eP π ρ E.yv (ρ id).blk off ((cs.drop off).take n):=by
 have:=R.objs id
 rw [ho] at this
 obtain ⟨vs,e,_,hv,hone,hf,_⟩:=this
 refine eP.mk fun j c hc=>?_
 rw [List.getElem?_take] at hc
 split at hc
 ·rw [List.getElem?_drop] at hc
  obtain ⟨u,hu,hr⟩:=hv.get _ c hc
  exact ⟨u,hf _ u (by omega) hu,hr,hone c (List.mem_of_getElem? hc)⟩
 cases hc
theorem eP.take {y:Value} {b o:Nat} {cs:List G} (h:eP π ρ y b o cs) (n:Nat):eP π ρ y b o (cs.take n):=eP.mk fun j c hc=>by
 rw [List.getElem?_take] at hc
 split at hc
 ·exact h.get j c hc
 cases hc
def aK5 (h:Nat→Ob) (ad:Option Nat):Nat→G→Option (Prop×G)
 |0,g=>some (True,g)
 |1,g=>match toP h g with
  |some (c,p)=>some (c,.p p)
  |none=>none
 |2,.nils=>match ad with
  |some d=>some (True,.own d 0)
  |none=>none
 |n+3,.ptr cs=>some (True,.ptr (cs.take n))
 |n+3,.ref id off=>match h id with
  |.cells cs fz=>some (off+n≤fz,.ptr ((cs.drop off).take n))
  |_=>none
 |_,_=>none
def kF (h:Nat→Ob) (ad:Option Nat):List Nat→List G→Option (Prop×List G)
 |[],[]=>some (True,[])
 |k::ks,g::gs=>match aK5 h ad k g with
  |some (c,g')=>match kF h ad ks gs with
   |some (d,gs')=>some (c∧d,g'::gs')
   |none=>none
  |none=>none
 |_,_=>none
theorem aDZ {A:E.α} {h:Nat→Ob} (R:Rel E π ρ h A S w) {ad:Option Nat} (hn:∀d,ad=some d→aK π ρ E.yv (.own d 0) (.slice none 0 0)) :
  ∀ {ks:List Nat} {gs gs':List G} {vs:List Value} {c:Prop},kF h ad ks gs=some (c,gs')→c→aR π ρ E.yv gs vs→aR π ρ E.yv gs' vs
 |[],[],gs',vs,c,hg,_,hv=>by simp only [kF,Option.some.injEq,Prod.mk.injEq] at hg;obtain ⟨-,rfl⟩:=hg;exact hv
 |[],_::_,gs',vs,c,hg,_,hv=>by simp [kF] at hg
 |_::_,[],gs',vs,c,hg,_,hv=>by simp [kF] at hg
 |k::ks,g::gs,gs',vs,c,hg,hc,hv=>by
  simp only [kF] at hg
  split at hg
  ·rename_i c1 g1 h1
   split at hg
   ·rename_i d1 gs1 h2
    cases hg
    simp only [aR] at hv ⊢
    obtain ⟨v,vs',rfl,r1,r2⟩:=hv
    refine ⟨v,vs',rfl,?_,aDZ R hn h2 hc.2 r2⟩
    unfold aK5 at h1
    split at h1
    ·cases h1;exact r1
    ·split at h1
     ·rename_i ht
      cases h1
      simp only [aK]
      exact fJ R ht hc.1 r1
     cases h1
    ·split at h1
     ·cases h1
      simp only [aK] at r1
      subst r1
      exact hn _ rfl
     cases h1
    ·cases h1
     simp only [aK] at r1 ⊢
     obtain ⟨b,o,e,hr⟩:=r1
     exact ⟨b,o,e,hr.take _⟩
    ·split at h1
     ·rename_i ho
      cases h1
      simp only [aK] at r1 ⊢
      exact ⟨_,_,r1,aC6 R ho hc.1⟩
     cases h1
    cases h1
   cases hg
  cases hg
def dH (h:Nat→Ob):Option (Nat×Ob)→Nat→Ob
 |none=>h
 |some (d,ob)=>upd h d ob
def iF (N:Nat) (h:Nat→Ob) (L:List (Nat×Nat)):Option (Nat×Ob)→Prop
 |none=>True
 |some (d,ob)=>h d = .none∧N≤d∧(∃e sz fz,ob = .arr e sz [] fz)∧d∈L.map (·.2)
theorem St.adopt (H:St C σ a w π ρ S) {L:List (Nat×Nat)} {ad:Option (Nat×Ob)} (ha:iF C.lim σ.h L ad):∃ρ',St C { σ with h:=dH σ.h ad } a w π ρ' S∧∀d,ad.map (·.1)=some d→aK π ρ' E.yv (.own d 0) (.slice none 0 0):=by
 cases ad with
 |none=>exact ⟨ρ,H,fun d hd=>by cases hd⟩
 |some q=>
  obtain ⟨d,ob⟩:=q
  obtain ⟨hd,hd2,⟨e,sz,fz,rfl⟩,_⟩:=ha
  have hdm:∀j,(σ.h j).men d=false:=fun j=>by
   cases hm:(σ.h j).men d with
   |false=>rfl
   |true=>exact absurd hd (H.wfh j d hm)
  obtain ⟨U1,U2⟩:=H.rel.newNil d hd hdm e sz fz
  refine ⟨_,H.putObj U1 U2 (fun j hj=>?_) (fun j hj=>?_) (fun id hid=>?_) (fun j id hm=>?_),fun d' hd'=>?_⟩
  ·have:j≠d:=fun e=>hj (e ▸ hd)
   rw [aZ _ _ this];exact .inl rfl
  ·rw [aZ _ _ (by omega)];exact .inl rfl
  ·show upd σ.h d (Ob.arr e sz [] fz) id ≠ .none
   simp only [upd];split
   ·simp
   exact hid
  ·have:∀id,σ.h id ≠ .none→upd σ.h d (Ob.arr e sz [] fz) id ≠ .none:=fun id hid=>by
    simp only [upd];split
    ·simp
    exact hid
   replace hm:(upd σ.h d (Ob.arr e sz [] fz) j).men id=true:=hm
   simp only [upd] at hm
   split at hm
   ·simp [Ob.men] at hm
   exact this id (H.wfh j id hm)
  simp only [Option.map_some,Option.some.injEq] at hd'
  subst hd'
  simp only [aK,aX]
  exact ⟨Nat.le_refl _,fun _=>trivial⟩
theorem aA4 {h:Nat→Ob} {d:Nat} {ob:Ob}:∀ {ps:List (Nat×Ob)},d∈ps.map (·.1)→cU (upd h d ob) ps=cU h ps
 |[],hd=>by cases hd
 |(i,o)::ps,hd=>by
  simp only [cU]
  by_cases hi:d=i
  ·subst hi
   congr 1
   funext x
   simp only [upd]
   split<;>rfl
  have hd':d∈ps.map (·.1):=by
   rw [List.map_cons,List.mem_cons] at hd
   exact hd.resolve_left hi
  have:upd (upd h d ob) i o=upd (upd h i o) d ob:=funext fun x=>by
   simp only [upd]
   by_cases e:x=i
   ·subst e;simp [Ne.symm hi]
   simp [e]
  rw [this]
  exact aA4 hd'
theorem aFf {h:Nat→Ob} {L:List (Nat×Nat)} {ad:Option (Nat×Ob)} {N:Nat} (ha:iF N h L ad) (h':Nat→Ob):cU (dH h ad) (cR L h')=cU h (cR L h'):=by
 cases ad with
 |none=>rfl
 |some q=>
  obtain ⟨d,ob⟩:=q
  refine aA4 ?_
  simp only [cR,List.map_map,Function.comp_def]
  exact ha.2.2.2
theorem aA5 (H:St C σ a w π ρ S) {cl:Call} {f:FuncId} {gs:List G} (hg:cI Pg σ.fr cl=some (f,gs)) (hent:aJ Pg f) {dst:Option Tmp} {ty pos after guard}
  {J:List Nat} {c:Prop} {args:List G} {L:List (Nat×Nat)} {ks:List Nat} {ad:Option (Nat×Ob)} (ha:iF C.lim σ.h L ad) (hcv:kF (rhp σ.h J) (ad.map (·.1)) ks gs=some (c,G.rens (dB L) args)) (hcc:c) {hc:Nat→Ob} (hp:kZ C.lim L (dH σ.h ad) hc)
  (hdis:∀d ob,ad=some (d,ob)→d∉J) {R:cL E→Prop} (spec:bD E f args hc σ.A R) (hok:∀g h' A',R (.ok g h' A')→gK L hc h') (hpa:∀p h' A',R (.panic p h' A')→gK L hc h') (hdst:∀t,dst=some t→t<C.N) :
  ∃vs,(execOp a.eval ⟨dst,.call cl,ty,pos,after,guard⟩).run Pg w = .ok (.enter f ⟨vs⟩) w∧CallsIn (MF Pg none) 0 Pg f ⟨vs⟩ w fun
   |.returned v,w'=>∃g h' A',R (.ok g h' A')∧Holds C (Sg.put { σ with A:=A' } dst (g.ren (dB L)) (cR L h')) (a.put dst v) w'
   |.panicked chain,w'=>∃p v h' A' π' ρ' S',chain=[{ v,recovered:=false }]∧aS π' p v∧R (.panic p h' A')∧St C { σ with A:=A',h:=cU σ.h (cR L h') } a w' π' ρ' S'
   |.outgrown,_=>False:=by
 obtain ⟨ρ1,H1,hnil⟩:=H.adopt ha
 obtain ⟨vs,hrun,hvs⟩:=aAY H1 (cl:=cl) hg hent (dst:=dst) (ty:=ty) (pos:=pos) (after:=after) (guard:=guard)
 refine ⟨vs,hrun,?_⟩
 have hJ:rhp σ.h J=rhp (dH σ.h ad) J:=funext fun id=>by
  simp only [rhp]
  split
  ·rename_i hi
   cases ad with
   |none=>rfl
   |some q=>
    obtain ⟨d,ob⟩:=q
    have:id≠d:=fun e=>hdis d ob rfl (e ▸ hi)
    exact (aZ σ.h ob this).symm
  rfl
 rw [hJ] at hcv
 have hvs':=aDZ (H1.rel.restrict J) hnil hcv hcc hvs
 refine (spec π _ S w vs (H1.rel.hand hp) (gH.1 hvs')).mono fun e w' k=>?_
 have hh:∀h',cU (dH σ.h ad) (cR L h')=cU σ.h (cR L h'):=fun h'=>aFf ha h'
 cases e with
 |returned v=>
  obtain ⟨π',ρ',h',A',S',g,hB,hv,hm,hR⟩:=k
  have hb:=hok g h' A' hR
  have H':=H1.back hp hb hB
  obtain ⟨_,_,_,_,_,_,c7⟩:=yA H1.rel hp hb hB H1.wfh
  obtain ⟨v1,v2⟩:=c7 g v hv hm
  have H2:=H'.putReg hdst v1 v2
  simp only [Sg.put,cU] at H2
  rw [hh] at H2
  exact ⟨g,h',A',hR,π',_,S',H2⟩
 |panicked chain=>
  obtain ⟨π',ρ',h',A',S',p,v,hB,he,hv,hR⟩:=k
  have H':=H1.back hp (hpa p h' A' hR) hB
  simp only at H'
  rw [hh] at H'
  exact ⟨p,v,h',A',π',_,S',he,hv,hR,H'⟩
 |outgrown=>exact k
theorem yE {ops:Array Oper} {o:Oper} {cl:Call} {f:FuncId} {gs args:List G} {J:List Nat} {c:Prop} {L:List (Nat×Nat)} {hc h':Nat→Ob} {g:G} {ks:List Nat} {ad:Option (Nat×Ob)} (ho:o.op = .call cl) (hw:dO ops σ.fr o=some true)
  (hg:cI Pg σ.fr cl=some (f,gs)) (hent:aJ Pg f) (ha:iF C.lim σ.h L ad) (hcv:kF (rhp σ.h J) (ad.map (·.1)) ks gs=some (c,G.rens (dB L) args)) (hcc:c) (hp:kZ C.lim L (dH σ.h ad) hc) (hdis:∀d ob,ad=some (d,ob)→d∉J)
  (spec:bD E f args hc σ.A fun x=>x = .ok g h' σ.A) (hb:gK L hc h') (hdst:∀t,o.dst=some t→t<C.N):Eff C r ops o σ (L.map (·.2)++J) (g.ren (dB L)) (cR L h'):=by
 intro σ' hA a w ⟨π,ρ,S,H⟩ K Q hK
 have hwt:=fQ H ((kW hA).trans hw)
 unfold wpO
 rw [hwt]
 simp only [if_true]
 have hg':cI Pg σ'.fr cl=some (f,gs):=by
  rw [uX (fr':=σ.fr)]
  ·exact hg
  have:=nY hA
  rw [ho] at this
  simpa [Op.operands] using this
 have hrh:rhp σ'.h J=rhp σ.h J:=funext fun id=>by
  simp only [rhp]
  split
  ·rename_i hi;exact hA.h id (by simp [hi])
  rfl
 have hL:∀j,j∈L.map (·.2)→σ'.h j=σ.h j:=fun j hj=>hA.h j (List.mem_append_left _ hj)
 have ha':iF C.lim σ'.h L ad:=by
  cases ad with
  |none=>trivial
  |some q=>
   obtain ⟨d,ob⟩:=q
   exact ⟨(hL d ha.2.2.2).trans ha.1,ha.2.1,ha.2.2.1,ha.2.2.2⟩
 have had:∀j,j∈L.map (·.2)→dH σ'.h ad j=dH σ.h ad j:=fun j hj=>by
  cases ad with
  |none=>exact hL j hj
  |some q=>simp only [dH,upd];split<;>first|rfl|exact hL j hj
 have hp':kZ C.lim L (dH σ'.h ad) hc:=⟨hp.n1,hp.n2,fun i hi=>by
   obtain ⟨j,h1,h2,h3⟩:=hp.old i hi
   exact ⟨j,h1,h2,(had j (List.mem_map.2 ⟨_,h1,rfl⟩)).trans h3⟩,fun i j hm hi=>by
   obtain ⟨h1,h2⟩:=hp.new i j hm hi
   exact ⟨(had j (List.mem_map.2 ⟨_,hm,rfl⟩)).trans h1,h2⟩⟩
 obtain ⟨vs,hrun,hcall⟩:=aA5 H hg' hent (dst:=o.dst) (ty:=o.type) (pos:=o.pos) (after:=o.after) (guard:=o.guard) ha' (by rw [hrh];exact hcv) hcc hp' hdis (by rw [hA.A];exact spec)
  (fun g2 h2 A2 e=>by cases e;exact hb) (fun p h2 A2 e=>by cases e) hdst
 refine ⟨fun _ _=>trivial,?_⟩
 have hsem:Oper.semAt (MF Pg r).round a.eval o=execOp a.eval o:=by
  cases r with
  |none=>rfl
  |some l=>exact Oper.semAt_some l _ _ fun cl hcl=>by rw [hcl] at ho;cases ho
 have hoo:execOp a.eval o=execOp a.eval ⟨o.dst,.call cl,o.type,o.pos,o.after,o.guard⟩:=by rw [←ho]
 rw [hsem,hoo,hrun]
 refine ⟨fun h=>by simp [Fence.wide] at h,jD (hcall.mono fun e w' k=>?_)⟩
 cases e with
 |returned v=>
  obtain ⟨g2,h2,A2,e,H'⟩:=k
  cases e
  refine hK _ _ ?_
  have:({ σ' with A:=σ.A }:Sg E)=σ':=by rw [←hA.A]
  rwa [this] at H'
 |panicked chain=>obtain ⟨p,v,h2,A2,π',ρ',S',_,_,e,_⟩:=k;cases e
 |outgrown=>exact k.elim
theorem aA6 {ops:Array Oper} {o:Oper} {cl:Call} {f:FuncId} {gs args:List G} {J:List Nat} {c:Prop} {L:List (Nat×Nat)} {hc:Nat→Ob} {ks:List Nat} {ad:Option (Nat×Ob)} {R:cL E→Prop} {K:Sg E→Prop} {Q:GE→Sg E→Prop} (ho:o.op = .call cl) (hw:dO ops σ.fr o=some true)
  (hg:cI Pg σ.fr cl=some (f,gs)) (hent:aJ Pg f) (ha:iF C.lim σ.h L ad) (hcv:kF (rhp σ.h J) (ad.map (·.1)) ks gs=some (c,G.rens (dB L) args)) (hcc:c) (hp:kZ C.lim L (dH σ.h ad) hc) (hdis:∀d ob,ad=some (d,ob)→d∉J)
  (spec:bD E f args hc σ.A R) (hok:∀g h' A',R (.ok g h' A')→gK L hc h'∧K (Sg.put { σ with A:=A' } o.dst (g.ren (dB L)) (cR L h')))
  (hpa:∀p h' A',R (.panic p h' A')→gK L hc h'∧Q (.panic p) { σ with A:=A',h:=cU σ.h (cR L h') }) (hdst:∀t,o.dst=some t→t<C.N):qV C r ops o σ K Q:=by
 intro a w ⟨π,ρ,S,H⟩ K' hK
 have hwt:=fQ H hw
 unfold wpO
 rw [hwt]
 simp only [if_true]
 obtain ⟨vs,hrun,hcall⟩:=aA5 H hg hent (dst:=o.dst) (ty:=o.type) (pos:=o.pos) (after:=o.after) (guard:=o.guard) ha hcv hcc hp hdis spec (fun g h' A' e=>(hok g h' A' e).1) (fun p h' A' e=>(hpa p h' A' e).1) hdst
 refine ⟨fun _ _=>trivial,?_⟩
 have hsem:Oper.semAt (MF Pg r).round a.eval o=execOp a.eval o:=by
  cases r with
  |none=>rfl
  |some l=>exact Oper.semAt_some l _ _ fun cl hcl=>by rw [hcl] at ho;cases ho
 have hoo:execOp a.eval o=execOp a.eval ⟨o.dst,.call cl,o.type,o.pos,o.after,o.guard⟩:=by rw [←ho]
 rw [hsem,hoo,hrun]
 refine ⟨fun h=>by simp [Fence.wide] at h,jD (hcall.mono fun e w' k=>?_)⟩
 cases e with
 |returned v=>
  obtain ⟨g2,h2,A2,e,H'⟩:=k
  exact hK _ _ _ (hok g2 h2 A2 e).2 H'
 |panicked chain=>
  obtain ⟨p,v,h2,A2,π',ρ',S',e1,e2,e3,H'⟩:=k
  exact ⟨_,p,v,π',ρ',S',e1,e2,H',(hpa p h2 A2 e3).2⟩
 |outgrown=>exact k.elim
theorem aI6 {fn:Func} {R:cL E→Prop} {l:List (Nat×G)} {m m':List (Nat×Ob)} {A:E.α} {d:Prop} {g:G} {I:List Nat} (hg:fH Pg (aG m) (bA l) fn.results.toList=some (d,g)) (hd:d) (hm:bS I m=m') (h1:dP g.idl I=true) (h3:dP (bO m I) I=true)
  (hne:∀i∈I,aG m i ≠ .none) (hR:R (.ok g (aG m') A)):Fin Pg fn R (sg l m A []):=by
 simp only [dP,List.all_eq_true,decide_eq_true_eq] at h1 h3
 subst hm
 refine ⟨rfl,d,g,hg,hd,g,_,.inl rfl,⟨fun id=>?_,fun j id hx=>?_⟩,fun id hx=>?_,hR⟩
 ·rw [dQ];split
  ·exact .inl rfl
  exact .inr rfl
 ·rw [dQ] at hx ⊢
  split at hx
  ·rename_i hj
   have:=h3 id (pO hj hx)
   rw [if_pos this];exact hne id this
  simp [Ob.men] at hx
 have:=h1 id (aAs hx)
 rw [dQ,if_pos this];exact hne id this
def iT (L:List (Nat×Nat)) (h:Nat→Ob):List (Nat×Ob)→Prop
 |[]=>True
 |(i,ob)::mc=>(i,dB L i)∈L∧i<100∧h (dB L i)=ob.ren (dB L)∧iT L h mc
def vS (N:Nat) (h:Nat→Ob) (mc:List (Nat×Ob)):List (Nat×Nat)→Prop
 |[]=>True
 |(i,j)::L=>(aG mc i = .none→h j = .none∧N≤j)∧vS N h mc L
def oF (L:List (Nat×Nat)):List (Nat×Ob)→Prop
 |[]=>True
 |(i,_)::mr=>(i,dB L i)∈L∧oF L mr
def oG (mr:List (Nat×Ob)):List (Nat×Ob)→Prop
 |[]=>True
 |(i,_)::mc=>aG mr i ≠ .none∧oG mr mc
theorem qF {N:Nat} {L:List (Nat×Nat)} {h:Nat→Ob} {mc:List (Nat×Ob)} (n1:(L.map (·.1)).Nodup) (n2:(L.map (·.2)).Nodup) (n3:(mc.map (·.1)).Nodup) (h1:iT L h mc) (h2:vS N h mc L):kZ N L h (aG mc) where
 n1:=n1
 n2:=n2
 old:=by
  have:∀(mc':List (Nat×Ob)),iT L h mc'→∀i,aG mc' i ≠ .none→∃j,(i,j)∈L∧i<100∧h j=(aG mc' i).ren (dB L):=fun mc'=>by
   induction mc' with
   |nil=>intro _ i hi;exact absurd rfl hi
   |cons q mc' ih=>
    obtain ⟨k,ob⟩:=q
    intro hp i hi
    obtain ⟨p1,p2,p3,p4⟩:=hp
    rw [aF] at hi ⊢
    split
    ·rename_i e;subst e;exact ⟨_,p1,p2,p3⟩
    rename_i e;rw [if_neg e] at hi;exact ih p4 i hi
  exact this mc h1
 new:=by
  have:∀(L':List (Nat×Nat)),vS N h mc L'→∀i j,(i,j)∈L'→aG mc i = .none→h j = .none∧N≤j:=fun L'=>by
   induction L' with
   |nil=>intro _ i j hm;cases hm
   |cons q L' ih=>
    obtain ⟨i',j'⟩:=q
    intro hp i j hm hi
    rcases List.mem_cons.1 hm with e|hm
    ·cases e;exact hp.1 hi
    exact ih hp.2 i j hm hi
  exact this L h2
theorem nP {L:List (Nat×Nat)} {mc mr:List (Nat×Ob)} (h1:oF L mr) (h2:oG mr mc):gK L (aG mc) (aG mr) where
 sup:=by
  have:∀(mr':List (Nat×Ob)),oF L mr'→∀i,aG mr' i ≠ .none→∃j,(i,j)∈L:=fun mr'=>by
   induction mr' with
   |nil=>intro _ i hi;exact absurd rfl hi
   |cons q mr' ih=>
    obtain ⟨k,ob⟩:=q
    intro hp i hi
    rw [aF] at hi
    split at hi
    ·rename_i e;subst e;exact ⟨_,hp.1⟩
    exact ih hp.2 i hi
  exact this mr h1
 stay:=by
  have:∀(mc':List (Nat×Ob)),oG mr mc'→∀i,aG mc' i ≠ .none→aG mr i ≠ .none:=fun mc'=>by
   induction mc' with
   |nil=>intro _ i hi;exact absurd rfl hi
   |cons q mc' ih=>
    obtain ⟨k,ob⟩:=q
    intro hp i hi
    rw [aF] at hi
    split at hi
    ·rename_i e;subst e;exact hp.1
    exact ih hp.2 i hi
  exact this mc h2
theorem oH:∀ {ps m:List (Nat×Ob)},cU (aG m) ps=aG (ps.reverse++m)
 |[],_=>rfl
 |(i,o)::ps,m=>by
  rw [cU,List.reverse_cons,List.append_assoc]
  exact oH (ps:=ps) (m:=(i,o)::m)
end
section
open Go.RowKit
variable {Pg:Program} [Kn Pg] {E:Env Pg} {C:Cx E} {σ:Sg E} {a:Act} {w:World} {π:PM} {ρ:RM} {S:Nat→Prop} {r:Option Nat}
abbrev Env.guard (E:Env Pg) (bs:List (Nat×Obj)):Env Pg where
 α:=E.α
 yv:=E.yv
 one:=E.one
 Res:=fun A S π w=>∃S0,E.Res A S0 π w∧(∀b,S0 b→b<w.heap.size)∧(∀p∈bs,w.heap[p.1]? = some p.2∧¬S0 p.1)∧(∀b,S b↔(S0 b∨∃p∈bs,p.1=b))
 Can:=E.Can
 Y:=E.Y
 stable:=fun {_ S π w w' π'} ⟨S0,h1,h0,h2,h4⟩ hb hs hsame hle hkn=>
  ⟨S0,E.stable h1 h0 hs (fun b hb0=>hsame b ((h4 b).2 (.inl hb0))) hle hkn,fun b hb0=>Nat.lt_of_lt_of_le (h0 b hb0) hs,fun p hp=>⟨(hsame p.1 ((h4 p.1).2 (.inr ⟨p,hp,rfl⟩))).1.trans (h2 p hp).1,(h2 p hp).2⟩,h4⟩
 ycall:=fun {a S π w args vs B} hc ⟨S0,h1,h0,h2,h4⟩ hb hk hv hB=>by
  have hB0:vH S0 π w B:=⟨hB.nodup,fun b hb hs=>hB.out b hb ((h4 b).2 (.inl hs)),hB.lt,hB.unk⟩
  obtain ⟨l,fn,tmps,assign,body,e1,e2,hr⟩:=E.ycall hc h1 h0 hk hv hB0
  refine ⟨l,fn,tmps,assign,body,e1,e2,hr.mono fun e w' k=>?_⟩
  obtain ⟨b,a',S',π',he,hY,hres,hin,hkn,hT⟩:=k
  have hlt:∀p∈bs,p.1<w.heap.size:=fun p hp=>(Array.getElem?_eq_some_iff.1 (h2 p hp).1).1
  have hnB:∀p∈bs,¬(S0 p.1∨p.1∈B):=fun p hp h=>by
   rcases h with h|h
   ·exact (h2 p hp).2 h
   exact hB.out _ h ((h4 p.1).2 (.inr ⟨p,hp,rfl⟩))
  refine ⟨b,a',fun b=>S' b∨∃p∈bs,p.1=b,π',he,hY,⟨S',hres,hin,fun p hp=>⟨(hT.keep p.1 (hlt p hp) (hnB p hp)).1.trans (h2 p hp).1,fun hs=>?_⟩,fun _=>Iff.rfl⟩,fun b hb=>?_,hkn,?_⟩
  ·rcases hT.own _ hs with h|h
   ·exact hnB p hp h
   have:=hlt p hp;omega
  ·rcases hb with hb|⟨p,hp,rfl⟩
   ·exact hin b hb
   exact Nat.lt_of_lt_of_le (hlt p hp) hT.size
  refine ⟨hT.size,hT.os,hT.tape,hT.output,fun b hb hn=>hT.keep b hb fun hs=>hn (hs.imp (fun x=>(h4 b).2 (.inl x)) id),hT.le,fun b hb=>?_⟩
  rcases hb with hb|hb
  ·exact (hT.own b hb).imp (fun h=>h.imp (fun x=>(h4 b).2 (.inl x)) id) id
  exact .inl (.inl ((h4 b).2 (.inr hb)))
theorem aD0 {A:E.α} {bs:List (Nat×Obj)} {h:Nat→Ob} (R:Rel E π ρ h A S w) (h1:∀p∈bs,w.heap[p.1]? = some p.2∧¬Own ρ h S p.1) :
  Rel (E.guard bs) π ρ h A (fun b=>S b∨∃p∈bs,p.1=b) w where
 know:=R.know
 objs:=R.objs
 apart:=R.apart
 sep:=fun i b hi hb=>by
  rcases hb with hb|⟨p,hp,rfl⟩
  ·exact R.sep i b hi hb
  exact (h1 p hp).2 (.inr ⟨i,hi⟩)
 gl:=R.gl
 res:=⟨S,R.res,R.inb,fun p hp=>⟨(h1 p hp).1,fun hl=>(h1 p hp).2 (.inl hl)⟩,fun _=>Iff.rfl⟩
 inb:=fun b hb=>by
  rcases hb with hb|⟨p,hp,rfl⟩
  ·exact R.inb b hb
  exact (Array.getElem?_eq_some_iff.1 (h1 p hp).1).1
theorem yF {A:E.α} {bs:List (Nat×Obj)} {h:Nat→Ob} (R:Rel (E.guard bs) π ρ h A S w) :
  ∃S0,Rel E π ρ h A S0 w∧(∀p∈bs,w.heap[p.1]? = some p.2∧¬Own ρ h S0 p.1)∧(∀b,S b↔(S0 b∨∃p∈bs,p.1=b)):=by
 obtain ⟨S0,h1,h0,h2,h4⟩:=R.res
 refine ⟨S0,⟨R.know,R.objs,R.apart,fun i b hi hb=>R.sep i b hi ((h4 b).2 (.inl hb)),h1,h0,R.gl⟩,fun p hp=>⟨(h2 p hp).1,fun ho=>?_⟩,h4⟩
 rcases ho with ho|⟨i,hi⟩
 ·exact (h2 p hp).2 ho
 exact R.sep i p.1 hi ((h4 p.1).2 (.inr ⟨p,hp,rfl⟩))
theorem wR {l:Nat} {o:Obj} (hk:∀b o v,π b o=some v→w.cell? ⟨b,o,none⟩=some v) (hn:∀o,w.heap[l]? = some o→o.isCells=false):∀b o' v,π b o'=some v→(w.putObj l o).cell? ⟨b,o',none⟩=some v:=fun b o' v hv=>by
 by_cases e:b=l
 ·subst e
  have:=hk _ _ _ hv
  obtain ⟨ob,ho,hc⟩:=cells_of_cell this
  rw [hn ob ho] at hc;cases hc
 have:=hk _ _ _ hv
 simp only [World.cell?] at this ⊢
 rw [World.putObj_heap_other e]
 exact this
theorem Rel.other {A:E.α} {h:Nat→Ob} {l:Nat} {o:Obj} (R:Rel E π ρ h A S w) (hl:¬Own ρ h S l) (hn:∀o,w.heap[l]? = some o→o.isCells=false):Rel E π ρ h A S (w.putObj l o) where
 know:=wR R.know hn
 objs:=fun id=>(R.objs id).keep (PM.le_refl _) rfl (fun _ _=>.inl rfl) fun b hb=>⟨World.putObj_heap_other fun e=>hl (.inr ⟨id,e ▸ hb⟩),rfl⟩
 apart:=R.apart
 sep:=R.sep
 res:=E.stable R.res R.inb (by simp) (fun b hb=>⟨World.putObj_heap_other fun e=>hl (.inl (e ▸ hb)),rfl⟩) (PM.le_refl _) (wR R.know hn)
 inb:=fun b hb=>by simpa using R.inb b hb
 gl:=R.gl
theorem uI {O:Nat→Prop} {l:Nat} {o:Obj} (hl:O l):cH O w π O (w.putObj l o) π:=
 ⟨by simp,rfl,rfl,rfl,fun b _ hn=>⟨World.putObj_heap_other fun e=>hn (e ▸ hl),rfl⟩,PM.le_refl _,fun _ h=>.inl h⟩
theorem iH.of_p {xs:List P}:∀ {vs:List Value},aU π xs vs→iH π w (xs.map Y0.p) vs []:=by
 induction xs with
 |nil=>intro vs h;simp only [aU] at h;exact ⟨h,rfl⟩
 |cons x xs ih=>
  intro vs h
  simp only [aU] at h
  obtain ⟨v,vs',rfl,h1,h2⟩:=h
  simp only [List.map_cons,iH]
  exact ⟨v,vs',rfl,h1,ih h2⟩
theorem vH.nil:vH S π w []:=⟨List.nodup_nil,fun _ h=>(by cases h),fun _ h=>(by cases h),fun _ h=>(by cases h)⟩
theorem aCh (H:St C σ a w π ρ S) {ops:Array Oper} {o:Oper} {cl:Call} {xs:List Y0} {vs:List Value} {B:List Nat} {K':Act→World→Prop} {QE:Exit→Act→World→Prop} {x:Operand} (ho:o.op = .call cl) (hx:cl.callee = .value x) (hw:dO ops σ.fr o=some true) (hy:gev σ.fr x = .abs)
  (hargs:vs=cl.args.toList.map a.eval) (hv:iH π w xs vs B) (hB:vH S π w B) (hcan:E.Can σ.A xs)
  (hk:∀w' b a' S' π',E.Y σ.A xs (.b b) a'→E.Res a' S' π' w'→(∀b,S' b→b<w'.heap.size)→(∀b o v,π' b o=some v→w'.cell? ⟨b,o,none⟩=some v)→cH (fun b=>S b∨b∈B) w π S' w' π'→K' (a.put o.dst (.bool b)) w')
  (hp:∀w' p v a' S' π',E.Y σ.A xs (.p p) a'→aS π' p v→E.Res a' S' π' w'→(∀b,S' b→b<w'.heap.size)→(∀b o v,π' b o=some v→w'.cell? ⟨b,o,none⟩=some v)→cH (fun b=>S b∨b∈B) w π S' w' π'→QE (.panic [{ v,recovered:=false }]) a w') :
  wpO r Pg ops QE o K' a w:=by
 have hwt:=fQ H hw
 unfold wpO
 rw [hwt]
 simp only [if_true]
 have hyv:=fP H x
 rw [hy] at hyv
 simp only [aK] at hyv
 obtain ⟨l,fn,tmps,assign,body,e1,e2,hround⟩:=E.ycall hcan H.rel.res H.rel.inb H.rel.know hv hB
 have hsem:Oper.semAt (MF Pg r).round a.eval o=execOp a.eval o:=by
  cases r with
  |none=>rfl
  |some l=>exact Oper.semAt_some l _ _ fun cl hcl=>by rw [hcl] at ho;cases ho
 have hab:o.about Pg w a.eval=none:=by
  unfold Oper.about
  rw [ho]
  obtain ⟨callee,⟨args⟩,ats⟩:=cl
  simp only at hx
  subst hx
  simp [resolve,hyv,e1,Deferred.ofValue,Target.leads]
 refine ⟨fun f' hf'=>(by rw [hab] at hf';cases hf'),?_⟩
 have hrun:(execOp a.eval o).run Pg w = .ok (.round l fn tmps assign body) w:=by
  obtain ⟨dst,op,ty,pos,af,gd⟩:=o
  simp only at ho
  subst ho
  obtain ⟨callee,⟨args⟩,ats⟩:=cl
  simp only at hx
  subst hx
  subst hargs
  simp [execOp,resolve,hyv,e1,Deferred.ofValue,invoke]
  exact e2
 rw [hsem,hrun]
 refine ⟨fun h=>by simp [Fence.wide] at h,⟨hround.1,fun c cs _=>hround.2 c cs (room_wide _)⟩ |> fun h=>RoundIn.mono (h:RoundIn (MF Pg r) _ Pg l fn tmps assign body w _) fun e w' k=>?_⟩
 obtain ⟨b,a',S',π',he,hY,hres,hinb,hknow,hT⟩:=k
 cases b with
 |b b=>subst he;exact hk w' b a' S' π' hY hres hinb hknow hT
 |p x=>
  obtain ⟨v,rfl,hv⟩:=he
  exact hp w' x v a' S' π' hY hv hres hinb hknow hT
theorem aFg {ops:Array Oper} {o:Oper} {cl:Call} {gs:List G} {c:Prop} {xs:List P} {J:List Nat} {K:Sg E→Prop} {Q:GE→Sg E→Prop} {x:Operand} (ho:o.op = .call cl) (hx:cl.callee = .value x) (hw:dO ops σ.fr o=some true) (hy:gev σ.fr x = .abs)
  (hgs:cl.args.toList.map (gev σ.fr)=gs) (hcv:oB (rhp σ.h J) gs=(c,xs.map .p)) (hc:c) (hcan:E.Can σ.A (xs.map Y0.p)) (hdst:∀t,o.dst=some t→t<C.N)
  (hk:∀b A',E.Y σ.A (xs.map Y0.p) (.b b) A'→K (Sg.put { σ with A:=A' } o.dst (.p (.bool b)) [])) (hpa:∀p A',E.Y σ.A (xs.map Y0.p) (.p p) A'→Q (.panic p) { σ with A:=A' }):qV C r ops o σ K Q:=by
 intro a w ⟨π,ρ,S,H⟩ K' hK
 have hargs:=aR.map_ev (fP H) cl.args.toList
 rw [hgs] at hargs
 have hv:=aAr (H.rel.restrict J) hargs (by rw [hcv];exact hc)
 rw [hcv] at hv
 have hp:=aU.of_VRels hv
 have main:∀ {w' a' S' π'},E.Res a' S' π' w'→(∀b,S' b→b<w'.heap.size)→(∀b o v,π' b o=some v→w'.cell? ⟨b,o,none⟩=some v)→cH (fun b=>S b∨b∈([]:List Nat)) w π S' w' π'→St C { σ with A:=a' } a w' π' ρ S':=fun {w' a' S' π'} hres hinb hknow hT0=>by
  have hT:cH S w π S' w' π':=hT0.weaken fun b hb=>by simpa using hb
  have R':Rel E π' ρ σ.h a' S' w':=by
   have hkeep:∀id b,bQ ρ id (σ.h id)=some b→w'.heap[b]? = w.heap[b]? ∧ π' b=π b:=fun id b hb=>hT.keep b ((H.rel.objs id).lt hb) (H.rel.sep id b hb)
   refine ⟨hknow,fun id=>(H.rel.objs id).keep hT.le rfl (fun _ _=>.inl rfl) (hkeep id),H.rel.apart,fun id b hb hs=>?_,hres,hinb,Kn.mono hT.le H.rel.gl⟩
   rcases hT.own b hs with h1|h1
   ·exact H.rel.sep id b hb h1
   have:=(H.rel.objs id).lt hb;omega
  have T':cH (Own ρ σ.h S) w π (Own ρ σ.h S') w' π':=by
   refine ⟨hT.size,hT.os,hT.tape,hT.output,fun b hb hn=>hT.keep b hb fun hs=>hn (.inl hs),hT.le,fun b hb=>?_⟩
   rcases hb with hb|hb
   ·exact (hT.own b hb).imp .inl id
   exact .inl (.inr hb)
  exact H.putObj R' T' (fun _ _=>.inl rfl) (fun _ _=>.inl rfl) (fun _ h=>h) H.wfh
 refine aCh H ho hx hw hy rfl (iH.of_p hp) .nil hcan (fun w' b a' S' π' hY hres hinb hknow hT=>?_) fun w' p v a' S' π' hY hv hres hinb hknow hT=>?_
 ·exact hK _ _ _ (hk b a' hY) ⟨π',ρ,S',(main hres hinb hknow hT).putReg (dst:=o.dst) (g:=.p (.bool b)) (v:=.bool b) hdst (aK.bool b) (fun id hm=>by simp [G.men] at hm)⟩
 exact ⟨_,p,v,π',ρ,S',rfl,hv,main hres hinb hknow hT,hpa p a' hY⟩
def shy (id:Nat) (fr:Nat→G):Nat→G:=fun t=>if (fr t).men id then .undef else fr t
theorem aD1 {ops:Array Oper} {o:Oper} {cl:Call} {id:Nat} {cs:List P} {K:Sg E→Prop} {Q:GE→Sg E→Prop} {x y:Operand} (ho:o.op = .call cl) (hx:cl.callee = .value x) (hw:dO ops σ.fr o=some true) (hy:gev σ.fr x = .abs)
  (hcl:cl.args.toList=[y]) (hgs:gev σ.fr y = .ref id 0) (hob:σ.h id = .cells (cs.map .p) 0) (hid:C.lim≤id) (hm1:∀j,(σ.h j).men id=false) (hm2:∀g∈σ.df,g.men id=false) (hcan:E.Can σ.A [.o cs]) (hdst:∀t,o.dst=some t→t<C.N)
  (hk:∀b A',E.Y σ.A [.o cs] (.b b) A'→K (Sg.put { σ with fr:=shy id σ.fr,h:=upd σ.h id .none,A:=A' } o.dst (.p (.bool b)) [])) (hpa:∀p A',E.Y σ.A [.o cs] (.p p) A'→Q (.panic p) { σ with fr:=shy id σ.fr,h:=upd σ.h id .none,A:=A' }):qV C r ops o σ K Q:=by
 intro a w ⟨π,ρ,S,H⟩ K' hK
 have hv:=fP H y
 rw [hgs] at hv
 simp only [aK] at hv
 have hor:kI π ρ E.yv w id (σ.h id):=H.rel.objs id
 have hlive:bQ ρ id (σ.h id)=some (ρ id).blk:=by rw [hob];rfl
 have hlt:=hor.lt hlive
 have hsep:=H.rel.sep id _ hlive
 rw [hob] at hor
 obtain ⟨us,e,hcell,hrel,hone,_,hun⟩:=hor
 have hvs:iH π w [.o cs] (cl.args.toList.map a.eval) [(ρ id).blk]:=by
  rw [hcl]
  simp only [List.map_cons,List.map_nil,iH]
  exact ⟨_,[],[],us,e,by rw [hv],rfl,hcell,.of_VRels hrel,fun c hc=>hone (.p c) (List.mem_map.2 ⟨c,hc,rfl⟩),rfl,rfl⟩
 have hB:vH S π w [(ρ id).blk]:=⟨by simp,fun b hb=>by simp at hb;rw [hb];exact hsep,fun b hb=>by simp at hb;rw [hb];exact hlt,fun b hb o=>by simp at hb;rw [hb];exact hun o (by omega)⟩
 have main:∀ {w' a' S' π'},E.Res a' S' π' w'→(∀b,S' b→b<w'.heap.size)→(∀b o v,π' b o=some v→w'.cell? ⟨b,o,none⟩=some v)→cH (fun b=>S b∨b∈[(ρ id).blk]) w π S' w' π'→St C { σ with fr:=shy id σ.fr,h:=upd σ.h id .none,A:=a' } a w' π' ρ S':=fun {w' a' S' π'} hres hinb hknow hT=>by
  have hl:∀j b,bQ ρ j (upd σ.h id .none j)=some b→j≠id∧bQ ρ j (σ.h j)=some b:=fun j b hb=>by
   by_cases e:j=id
   ·subst e;rw [aX] at hb;simp [bQ] at hb
   rw [aZ _ _ e] at hb;exact ⟨e,hb⟩
  have hkeep:∀j b,j≠id→bQ ρ j (σ.h j)=some b→w'.heap[b]? = w.heap[b]? ∧ π' b=π b:=fun j b hj hb=>hT.keep b ((H.rel.objs j).lt hb) fun hs=>by
   rcases hs with hs|hs
   ·exact H.rel.sep j b hb hs
   simp at hs;subst hs;exact H.rel.apart j id _ hj hb hlive
  have R':Rel E π' ρ (upd σ.h id .none) a' S' w':=by
   refine ⟨hknow,fun j=>?_,fun i j b hij hi hj=>H.rel.apart i j b hij (hl i b hi).2 (hl j b hj).2,fun j b hb hs=>?_,hres,hinb,Kn.mono hT.le H.rel.gl⟩
   ·by_cases e:j=id
    ·subst e;rw [aX];trivial
    rw [aZ _ _ e]
    exact (H.rel.objs j).keep hT.le rfl (fun _ _=>.inl rfl) fun b hb=>hkeep j b e hb
   obtain ⟨hj,hb⟩:=hl j b hb
   rcases hT.own b hs with (h1|h1)|h1
   ·exact H.rel.sep j b hb h1
   ·simp at h1;subst h1;exact H.rel.apart j id _ hj hb hlive
   have:=(H.rel.objs j).lt hb;omega
  have T':cH (Own ρ σ.h S) w π (Own ρ (upd σ.h id .none) S') w' π':=by
   refine ⟨hT.size,hT.os,hT.tape,hT.output,fun b hb hn=>hT.keep b hb fun hs=>hn ?_,hT.le,fun b hb=>?_⟩
   ·rcases hs with hs|hs
    ·exact .inl hs
    simp at hs;subst hs;exact .inr ⟨id,hlive⟩
   rcases hb with hb|⟨j,hb⟩
   ·rcases hT.own b hb with (h1|h1)|h1
    ·exact .inl (.inl h1)
    ·simp at h1;subst h1;exact .inl (.inr ⟨id,hlive⟩)
    exact .inr h1
   exact .inl (.inr ⟨j,(hl j b hb).2⟩)
  have hne:∀i,i≠id→σ.h i ≠ .none→upd σ.h id Ob.none i ≠ .none:=fun i hi hn=>by rw [aZ _ _ hi];exact hn
  have hshy:∀t i,(shy id σ.fr t).men i=true→i≠id∧(σ.fr t).men i=true:=fun t i hm=>by
   simp only [shy] at hm
   split at hm
   ·simp [G.men] at hm
   rename_i hf
   refine ⟨fun e=>?_,hm⟩
   subst e;exact hf hm
  refine ⟨H.size,fun t=>?_,H.defs.mono hT.le fun _ _ _ _=>.inl rfl,R',H.trans.trans T',H.step,fun t i hm=>hne i (hshy t i hm).1 (H.wfr t i (hshy t i hm).2),fun j i hm=>?_,fun g hg i hm=>?_⟩
  ·show aK π' ρ E.yv (shy id σ.fr t) _
   simp only [shy]
   split
   ·simp only [aK]
   exact (H.vals t).mono hT.le fun _ _=>.inl rfl
  ·replace hm:(upd σ.h id Ob.none j).men i=true:=hm
   by_cases e:j=id
   ·subst e;rw [aX] at hm;simp [Ob.men] at hm
   rw [aZ _ _ e] at hm
   refine hne i (fun e=>?_) (H.wfh j i hm)
   subst e;rw [hm1] at hm;cases hm
  refine hne i (fun e=>?_) (H.wfd g hg i hm)
  subst e;rw [hm2 g hg] at hm;cases hm
 refine aCh H ho hx hw hy rfl hvs hB hcan (fun w' b a' S' π' hY hres hinb hknow hT=>?_) fun w' p v a' S' π' hY hv hres hinb hknow hT=>?_
 ·exact hK _ _ _ (hk b a' hY) ⟨π',ρ,S',(main hres hinb hknow hT).putReg (dst:=o.dst) (g:=.p (.bool b)) (v:=.bool b) hdst (aK.bool b) (fun id hm=>by simp [G.men] at hm)⟩
 exact ⟨_,p,v,π',ρ,S',rfl,hv,main hres hinb hknow hT,hpa p a' hY⟩
end
section
open Go.RowKit
variable {Pg:Program} [Kn Pg] {E:Env Pg} {C:Cx E} {σ:Sg E} {a:Act} {w w':World} {π π':PM} {ρ ρ':RM} {S S':Nat→Prop} {r:Option Nat}
def aA7 (Pg:Program) [Kn Pg] (f:FuncId) (args:List G) (xs:List (List Y0)) (tail:Option P) (pan:Bool):Prop:=
 ∀(E:Env Pg) (J:Nat→E.α→Prop) (Z:E.α→Prop) (ZP:P→E.α→Prop),(∀k a x,J k a→xs[k]? = some x→E.Can a x) →
  (∀k a x b a',J k a→xs[k]? = some x→E.Y a x b a'→match b with|.b true=>J (k+1) a'|.b false=>Z a'|.p p=>pan=true∧ZP p a') →
  ∀A,J 0 A→bD E f args (aG []) A fun y=>(∃v h' A',y = .ok v h' A'∧((tail=none∧J xs.length A')∨Z A'))∨∃p h' A',y = .panic p h' A'∧((tail=some p∧J xs.length A')∨ZP p A')
structure LSt (C:Cx E) (σ:Sg E) (a:Act) (w:World) (π:PM) (ρ:RM) (S:Nat→Prop):Prop where
 size:a.tmps.size=C.N
 vals:∀t,aK π ρ E.yv (σ.fr t) (a.tmps.getD t undef)
 defs:rS π ρ E.yv σ.df a.defers
 rel:Rel E π ρ σ.h σ.A S w
 step:∀j,j<C.lim→fL (C.ρ0 j) (ρ j)
 wfr:∀t id,(σ.fr t).men id=true→σ.h id ≠ .none
 wfh:∀j id,(σ.h j).men id=true→σ.h id ≠ .none
 wfd:∀g∈σ.df,∀id,g.men id=true→σ.h id ≠ .none
theorem St.ls (H:St C σ a w π ρ S):LSt C σ a w π ρ S:=⟨H.size,H.vals,H.defs,H.rel,H.step,H.wfr,H.wfh,H.wfd⟩
theorem rS.le (h:PM.le π π') {gs:List GD} {ds:List Deferred} {y:Value} (k:rS π ρ y gs ds):rS π' ρ y gs ds:=k.mono h fun _ _ _ _=>.inl rfl
theorem LSt.stable (H:LSt C σ a w π ρ S) (hs:w.heap.size≤w'.heap.size) (hsame:∀b,Own ρ σ.h S b→w'.heap[b]? = w.heap[b]? ∧ π' b=π b) (hle:PM.le π π')
  (hk:∀b o v,π' b o=some v→w'.cell? ⟨b,o,none⟩=some v):LSt C σ a w' π' ρ S where
 size:=H.size
 vals:=fun t=>(H.vals t).mono hle fun _ _=>.inl rfl
 defs:=H.defs.le hle
 rel:=⟨hk,fun id=>(H.rel.objs id).keep hle rfl (fun _ _=>.inl rfl) fun b hb=>hsame b (.inr ⟨id,hb⟩),H.rel.apart,H.rel.sep,
  E.stable H.rel.res H.rel.inb hs (fun b hb=>hsame b (.inl hb)) hle hk,fun b hb=>Nat.lt_of_lt_of_le (H.rel.inb b hb) hs,Kn.mono hle H.rel.gl⟩
 step:=H.step
 wfr:=H.wfr
 wfh:=H.wfh
 wfd:=H.wfd
theorem LSt.other (H:LSt C σ a w π ρ S) {l:Nat} {o:Obj} (hl:¬Own ρ σ.h S l) (hn:∀o,w.heap[l]? = some o→o.isCells=false):LSt C σ a (w.putObj l o) π ρ S:=
 ⟨H.size,H.vals,H.defs,H.rel.other hl hn,H.step,H.wfr,H.wfh,H.wfd⟩
inductive LS (E:Env Pg) where
 |run (k:Nat) (h:Nat→Ob) (A:E.α)
 |jump (c:Code) (h:Nat→Ob) (A:E.α)
 |dead (p:P) (h:Nat→Ob) (A:E.α)
def Lp (C:Cx E) (σ:Sg E) (a:Act) (bs:List (Nat×Obj)) (S:Nat→Prop) (π:PM) (w:World):Prop:=
 ∃ρ S0,LSt C σ a w π ρ S0∧(∀p∈bs,w.heap[p.1]? = some p.2∧¬Own ρ σ.h S0 p.1)∧(∀b,S b↔(Own ρ σ.h S0 b∨∃p∈bs,p.1=b))
theorem Lp.stable {bs:List (Nat×Obj)} (H:Lp C σ a bs S π w) (hs:w.heap.size≤w'.heap.size) (hsame:∀b,S b→w'.heap[b]? = w.heap[b]? ∧ π' b=π b) (hle:PM.le π π')
  (hk:∀b o v,π' b o=some v→w'.cell? ⟨b,o,none⟩=some v):Lp C σ a bs S π' w':=by
 obtain ⟨ρ,S0,H,h1,h2⟩:=H
 exact ⟨ρ,S0,H.stable hs (fun b hb=>hsame b ((h2 b).2 (.inl hb))) hle hk,fun p hp=>⟨(hsame p.1 ((h2 _).2 (.inr ⟨p,hp,rfl⟩))).1.trans (h1 p hp).1,(h1 p hp).2⟩,h2⟩
def aCi:(Nat→G)→List Nat→List P→Nat→G
 |fr,p::ps,x::xs=>aCi (upd fr p (.p x)) ps xs
 |fr,_,_=>fr
theorem aI7 {N:Nat}:∀ {ps:List Nat} {x:List P} {vs:List Value} {fr:Nat→G} {tmps:Array Value},aU π x vs→tmps.size=N→(∀p∈ps,p<N)→(∀t,aK π ρ E.yv (fr t) (tmps.getD t undef)) →
  (∀t,aK π ρ E.yv (aCi fr ps x t) (((ps.zip vs).foldl (fun t (p,v)=>t.setIfInBounds p v) tmps).getD t undef))∧((ps.zip vs).foldl (fun t (p,v)=>t.setIfInBounds p v) tmps).size=N
 |[],x,vs,fr,tmps,_,hN,_,hv=>by cases x<;>exact ⟨hv,hN⟩
 |p::ps,[],vs,fr,tmps,hx,hN,_,hv=>by
  simp only [aU] at hx;subst hx
  exact ⟨hv,hN⟩
 |p::ps,x::xs,vs,fr,tmps,hx,hN,hp,hv=>by
  simp only [aU] at hx
  obtain ⟨v,vs',rfl,h1,h2⟩:=hx
  simp only [List.zip_cons_cons,List.foldl_cons,aCi]
  refine aI7 h2 (by simpa using hN) (fun q hq=>hp q (by simp [hq])) fun t=>?_
  have hpt:=hp p (by simp)
  simp only [upd]
  by_cases e:t=p
  ·subst e
   rw [if_pos rfl]
   simp [Array.getD,hN,hpt]
   simpa only [aK] using h1
  rw [if_neg e]
  simp only [Array.getD_eq_getD_getElem?,Array.getElem?_setIfInBounds_ne (Ne.symm e)]
  have:=hv t
  rwa [Array.getD_eq_getD_getElem?] at this
theorem aGt {id:Nat}:∀ {ps:List Nat} {x:List P} {fr:Nat→G} {t:Nat},(aCi fr ps x t).men id=true→∃t,(fr t).men id=true
 |[],x,fr,t,h=>by cases x<;>exact ⟨t,h⟩
 |p::ps,[],fr,t,h=>⟨t,h⟩
 |p::ps,x::xs,fr,t,h=>by
  obtain ⟨t,h⟩:=aGt (ps:=ps) h
  simp only [upd] at h
  split at h
  ·simp [G.men] at h
  exact ⟨t,h⟩
def jmp:GE→Option Code
 |.ret=>some .ret
 |.exit i=>some (.exit i)
 |.goto t=>some (.goto t)
 |_=>none
def aOE {E2:Env Pg} (C2:Cx E2) (I:(Nat→Ob)→E2.α→Prop) (K:GE→(Nat→Ob)→E2.α→Prop) (KP:P→(Nat→Ob)→E2.α→Prop):GE→Sg E2→Prop
 |.normal,σ=>∃σ3,Le C2 σ σ3∧I σ3.h σ3.A
 |.panic p,σ=>σ.df=[]∧∃h',Sub h' σ.h∧KP p h' σ.A
 |e,σ=>∃σ3,Le C2 σ σ3∧K e σ3.h σ3.A
def aOF (C:Cx E) (lim:Nat) (l:Nat) (body:Code) (I:(Nat→Ob)→E.α→Prop) (K:GE→(Nat→Ob)→E.α→Prop) (KP:P→(Nat→Ob)→E.α→Prop) {E1:Env Pg} (hα:E1.α=E.α):GE→Sg E1→Prop
 |.normal,σ=>∀(bs:List (Nat×Obj)) (C2:Cx (E.guard bs)),C2.N=C.N→C2.lim=lim→(∃r0,(l,Obj.loop r0)∈bs)→gwp C2 (some l) body (aOE C2 I K KP) ⟨σ.fr,σ.h,hα ▸ σ.A,σ.df⟩
 |_,_=>False
def yG:List Y0→List P
 |[]=>[]
 |.p x::xs=>x::yG xs
 |.o _::xs=>yG xs
theorem aA8:∀(xs:List P),yG (xs.map Y0.p)=xs
 |[]=>rfl
 |x::xs=>by simp only [List.map_cons,yG,aA8 xs]
def aAg (fr:Nat→G) (ps:List Nat):List Y0→Nat→G
 |[.o _]=>match ps with|[p]=>upd fr p (.ref 95000 0)|_=>fr
 |x=>aCi fr ps (yG x)
def qG (h:Nat→Ob):List Y0→Nat→Ob
 |[.o cs]=>upd h 95000 (.cells (cs.map .p) 0)
 |_=>h
theorem aM1 {fr:Nat→G} {ps:List Nat} {xs:List P}:aAg fr ps (xs.map Y0.p)=aCi fr ps xs:=by
 have:yG (xs.map Y0.p)=xs:=aA8 xs
 match xs with
 |[]=>rfl
 |[x]=>rfl
 |x::y::xs=>simp only [List.map_cons] at this ⊢;simp only [aAg,this]
theorem aM2 {h:Nat→Ob} {xs:List P}:qG h (xs.map Y0.p)=h:=by
 match xs with
 |[]=>rfl
 |[x]=>rfl
 |x::y::xs=>rfl
structure Lo (C:Cx E) where
 fr:Nat→G
 df:List GD
 ps:List Nat
 assign:Code
 body:Code
 xs:List (List Y0)
 tail:Option P
 pan:Bool
 lim:Nat
 I:Nat→(Nat→Ob)→E.α→Prop
 K:GE→(Nat→Ob)→E.α→Prop
 KP:P→(Nat→Ob)→E.α→Prop
def Lo.wf {C:Cx E} (L:Lo C) (h:Nat→Ob):Prop:=(∀t id,(L.fr t).men id=true→h id ≠ .none)∧(∀g∈L.df,∀id,g.men id=true→h id ≠ .none)
structure Lo.Ok {C:Cx E} (L:Lo C):Prop where
 limC:C.lim≤L.lim
 limOk:L.lim≤90000
 ps:∀p∈L.ps,p<C.N
 len:∀x∈L.xs,x.length=L.ps.length
 shp:∀x∈L.xs,(∃ys:List P,x=ys.map Y0.p)∨∃cs,x=[.o cs]
 wfI:∀k h A,L.I k h A→L.wf h∧∀id,h id ≠ .none→id<L.lim
 wfK:∀e h A,L.K e h A→L.wf h
 wfP:∀p h A,L.KP p h A→L.pan=true∧L.wf h
 round:∀k h A x,L.I k h A→L.xs[k]? = some x→∀(l:Nat) (bs:List (Nat×Obj)) (C1:Cx (E.guard bs)),C1.N=C.N→C1.lim=L.lim →
  gwp C1 (some l) L.assign (aOF C L.lim l L.body (L.I (k+1)) L.K L.KP rfl) ⟨aAg L.fr L.ps x,qG h x,A,[]⟩
theorem cH.shrink {O O' O'':Nat→Prop} (h:cH O w π O' w' π') (hs:∀b,O'' b→O' b):cH O w π O'' w' π':=⟨h.size,h.os,h.tape,h.output,h.keep,h.le,fun b hb=>h.own b (hs b hb)⟩
theorem kN {h:Nat→Ob} {S0 S1:Nat→Prop} {bs:List (Nat×Obj)} (hS:∀b,S1 b↔(S0 b∨∃p∈bs,p.1=b)) (b:Nat):Own ρ h S1 b↔(Own ρ h S0 b∨∃p∈bs,p.1=b):=by
 simp only [Own,hS]
 constructor
 ·rintro ((h|h)|h)
  ·exact .inl (.inl h)
  ·exact .inr h
  exact .inl (.inr h)
 rintro ((h|h)|h)
 ·exact .inl (.inl h)
 ·exact .inr h
 exact .inl (.inr h)
variable {L:Lo C}
def gO (fn:FuncId) (tmps:Array Value) (ps:Array Tmp) (assign body:Code) (D:Nat) (st:LoopState) (pe:Option Code):Loop:={ state:=st,pending:=pe,fn,tmps,params:=ps,assign,body,defers:=D }
def aFh (ex:Prop) (P:Program) (l:Nat) (R:Ending→World→Prop):Exit→Act→World→Prop
 |.panic chain,a,w=>a.defers=[]∧ex∧R (.panicked chain) w
 |e,a,w=>roundPost P l R e a w
theorem aHm {l:Nat} {f:FuncId} {tmps:Array Value} {assign body:Code} {R:Ending→World→Prop}
  (h:assign.wpIn (MF Pg (some l)) 0 Pg (Exit.then (fun a₁ w₁=>∃w₂,(Instr.beginRound l).run Pg w₁ = .ok () w₂∧body.wpIn (MF Pg (some l)) 0 Pg (aFh ((Pg.funcs[f]?).isSome=true) Pg l R) a₁ w₂) (fun _ _ _=>False)) { tmps:=tmps,defers:=[] } w) :
  RoundIn (MF Pg none) 0 Pg l f tmps assign body w R:=by
 refine ⟨trivial,fun c cs hr=>?_⟩
 let b:Frame:={ (default:Frame) with fn:=f,kind:=.normal,roundOf:=some l }
 have hb0:Frame.round l f tmps assign body .normal=b.atR { tmps:=tmps,defers:=[] } [.code assign,.beginRound,.code body]:=by
  simp [Frame.round,Frame.atR,b]
 have hr':(MF Pg (some l)).room ((c::cs).length+1+0):=room_wide _
 have hF':(MF Pg (some l)).fn b.fn:=trivial
 obtain ⟨e,a₁,w₁,hq,harr⟩:=h b [.beginRound,.code body] (c::cs) rfl hF' hr'
 rw [←hb0] at harr
 cases e with
 |normal=>
  obtain ⟨w₂,hbr,hbody⟩:=hq
  have s1:StepsIn (Machine.fenced Pg (MF Pg (some l))) Pg (lone (b.atR a₁ [.beginRound,.code body]) (c::cs) w₁) (lone (b.atR a₁ [.code body]) (c::cs) w₂):=
   .one (fenced_calm (fr:=b.atR a₁ [.beginRound,.code body]) hF' hr' rfl) (stepR_beginRound rfl hbr)
  obtain ⟨e₂,a₂,w₃,hq₂,harr₂⟩:=hbody b [] (c::cs) rfl hF' hr'
  cases e₂ with
  |normal=>
   obtain ⟨v,w₄,hend,hR⟩:=hq₂
   exact ⟨.returned v,w₄,hR,(StepsIn.trans harr s1).trans (StepsIn.trans harr₂ (.one (fenced_calm (fr:=b.atR a₂ []) hF' hr' rfl) (stepR_round_end rfl rfl hend)))⟩
  |ret=>
   obtain ⟨v,w₄,hend,hR⟩:=hq₂
   obtain ⟨k₁,hs⟩:=harr₂.2 rfl
   exact ⟨.returned v,w₄,hR,(StepsIn.trans harr s1).trans (StepsIn.trans hs (.one (fenced_calm (fr:=b.atR a₂ (.code .ret::k₁)) hF' hr' rfl) (stepR_round_ret rfl rfl hend)))⟩
  |exit id=>
   obtain ⟨v,w₄,hend,hR⟩:=hq₂
   obtain ⟨k₁,hk,hs⟩:=harr₂.2 rfl rfl
   exact ⟨.returned v,w₄,hR,(StepsIn.trans harr s1).trans (StepsIn.trans hs (.one (fenced_calm (fr:=b.atR a₂ (.code (.exit id)::k₁)) hF' hr' rfl) (stepR_round_exit rfl rfl hk hend)))⟩
  |goto t=>
   obtain ⟨v,w₄,hend,hR⟩:=hq₂
   obtain ⟨k₁,hk,hs⟩:=harr₂.2 rfl rfl
   exact ⟨.returned v,w₄,hR,(StepsIn.trans harr s1).trans (StepsIn.trans hs (.one (fenced_calm (fr:=b.atR a₂ (.code (.goto t)::k₁)) hF' hr' rfl) (stepR_round_goto rfl rfl hk hend)))⟩
  |panic chain=>
   obtain ⟨hd,hfn,hR⟩:=hq₂
   obtain ⟨todo,hs⟩:=harr₂
   obtain ⟨fn,hfn⟩:=Option.isSome_iff_exists.1 hfn
   have hl:({ b.atR a₂ todo with mode:=.panicking chain }:Frame).leaving Pg w₃ (.panicked chain):=⟨rfl,hd,fn,hfn⟩
   exact ⟨.panicked chain,w₃,hR,(StepsIn.trans harr s1).trans (StepsIn.trans hs (.one (fenced_leaving hF' hr' hl) (step_leave_panicked hl)))⟩
  |outgrown=>exact hq₂.elim
 |exit id=>exact hq.elim
 |goto t=>exact hq.elim
 |ret=>exact hq.elim
 |panic chain=>exact hq.elim
 |outgrown=>exact hq.elim
theorem Rel.give {h:Nat→Ob} {A:E.α} (R:Rel E π ρ h A S w) {d b:Nat} {us:List Value} {e:TypeId} {cs:List P} (hd:h d = .none) (hdm:∀j,(h j).men d=false) (hb:w.heap[b]? = some (.cells ⟨us⟩ e (0,0))) (hcs:aU π cs us) (h1:∀c∈cs,c.one=true)
  (hn:¬Own ρ h S b) (hun:∀o,π b o=none):Rel E π (upd ρ d ⟨b,undef,0⟩) (upd h d (.cells (cs.map .p) 0)) A S w:=by
 have hl:∀j,j≠d→bQ (upd ρ d ⟨b,undef,0⟩) j (upd h d (.cells (cs.map .p) 0) j)=bQ ρ j (h j):=fun j hj=>by
  rw [aZ _ _ hj]
  cases h j<;>simp [bQ,aZ _ _ hj]
 have hld:bQ (upd ρ d ⟨b,undef,0⟩) d (upd h d (.cells (cs.map .p) 0) d)=some b:=by simp [aX,bQ]
 refine ⟨R.know,fun j=>?_,fun i j b' hij hi hj=>?_,fun i b' hi=>?_,R.res,R.inb,R.gl⟩
 ·by_cases hj:j=d
  ·subst hj;rw [aX]
   refine ⟨us,e,by rw [aX];exact hb,aR.of_PRels hcs,fun c hc=>?_,fun j u hj _=>by omega,fun j _=>by rw [aX];exact hun j⟩
   obtain ⟨p,hp,rfl⟩:=List.mem_map.1 hc
   exact h1 p hp
  rw [aZ _ _ hj]
  refine (R.objs j).keep (PM.le_refl _) (aZ _ _ hj) (fun i hm=>?_) fun b hb=>⟨rfl,rfl⟩
  by_cases e:i=d
  ·subst e;rw [hdm j] at hm;cases hm
  rw [aZ _ _ e];exact .inl rfl
 ·by_cases hi':i=d
  ·subst hi'
   rw [hld] at hi;cases hi
   rw [hl j (Ne.symm hij)] at hj
   exact hn (.inr ⟨j,hj⟩)
  rw [hl i hi'] at hi
  by_cases hj':j=d
  ·subst hj'
   rw [hld] at hj;cases hj
   exact hn (.inr ⟨i,hi⟩)
  rw [hl j hj'] at hj
  exact R.apart i j b' hij hi hj
 by_cases hi':i=d
 ·subst hi'
  rw [hld] at hi;cases hi
  exact fun hs=>hn (.inl hs)
 rw [hl i hi'] at hi
 exact R.sep i b' hi
theorem aD2 {ps:List Nat} {x:List Y0} {vs:List Value} {B:List Nat} {fr:Nat→G} {h:Nat→Ob} {A:E.α} {tmps:Array Value} {N:Nat} (R:Rel E π ρ h A S w) (hshp:(∃ys:List P,x=ys.map Y0.p)∨∃cs,x=[.o cs]) (hlen:x.length=ps.length) (hv:iH π w x vs B)
  (hB:∀b∈B,¬Own ρ h S b∧∀o,π b o=none) (hN:tmps.size=N) (hp:∀p∈ps,p<N) (hvals:∀t,aK π ρ E.yv (fr t) (tmps.getD t undef)) (hh:∀id,h id ≠ .none→id<90000) (wfr:∀t id,(fr t).men id=true→h id ≠ .none) (wfh:∀j id,(h j).men id=true→h id ≠ .none) :
  ∃ρ1,Rel E π ρ1 (qG h x) A S w∧(∀j,j<90000→ρ1 j=ρ j)∧(∀t,aK π ρ1 E.yv (aAg fr ps x t) (((ps.zip vs).foldl (fun t (p,v)=>t.setIfInBounds p v) tmps).getD t undef))∧((ps.zip vs).foldl (fun t (p,v)=>t.setIfInBounds p v) tmps).size=N ∧
   (∀t id,(aAg fr ps x t).men id=true→qG h x id ≠ .none)∧(∀j id,(qG h x j).men id=true→qG h x id ≠ .none)∧(∀b,Own ρ1 (qG h x) S b→Own ρ h S b∨b∈B)∧(∀b,Own ρ h S b→Own ρ1 (qG h x) S b):=by
 rcases hshp with ⟨ys,rfl⟩|⟨cs,rfl⟩
 ·have hv':aU π ys vs:=by
   clear hlen hB
   induction ys generalizing vs B with
   |nil=>simp only [List.map_nil,iH] at hv;simp only [aU];exact hv.1
   |cons y ys ih=>
    simp only [List.map_cons,iH] at hv
    obtain ⟨v,vs',rfl,h1,h2⟩:=hv
    simp only [aU]
    exact ⟨v,vs',rfl,h1,ih h2⟩
  rw [aM2,aM1]
  have hpar:=aI7 (E:=E) (ρ:=ρ) (ps:=ps) hv' hN hp hvals
  exact ⟨ρ,R,fun _ _=>rfl,hpar.1,hpar.2,fun t id hm=>by obtain ⟨t,hm⟩:=aGt hm;exact wfr t id hm,wfh,fun b hb=>.inl hb,fun b hb=>hb⟩
 simp only [iH] at hv
 obtain ⟨b,vs',B',us,e,rfl,rfl,hcell,hcs,h1,rfl,rfl⟩:=hv
 obtain ⟨p,rfl⟩:∃p,ps=[p]:=by
  match ps,hlen with
  |[p],_=>exact ⟨p,rfl⟩
 have hd:h 95000 = .none:=by
  cases hx:h 95000 with
  |none=>rfl
  |_=>exact absurd (hh 95000 (by rw [hx];simp)) (by omega)
 have hdm:∀j,(h j).men 95000=false:=fun j=>by
  cases hm:(h j).men 95000 with
  |false=>rfl
  |true=>exact absurd hd (wfh j _ hm)
 have hdf:∀t,(fr t).men 95000=false:=fun t=>by
  cases hm:(fr t).men 95000 with
  |false=>rfl
  |true=>exact absurd hd (wfr t _ hm)
 obtain ⟨hn,hun⟩:=hB b (by simp)
 have R1:=R.give hd hdm hcell hcs h1 hn hun
 have hpN:=hp p (by simp)
 have hne:∀id,h id ≠ .none→upd h 95000 (.cells (cs.map .p) 0) id ≠ .none:=fun id hid=>by
  simp only [upd];split
  ·simp
  exact hid
 refine ⟨upd ρ 95000 ⟨b,undef,0⟩,R1,fun j hj=>aZ _ _ (by omega),fun t=>?_,by simpa using hN,fun t id hm=>?_,fun j id hm=>?_,fun b' hb'=>?_,fun b' hb'=>?_⟩
 ·simp only [List.zip_cons_cons,List.zip_nil_right,List.foldl_cons,List.foldl_nil,aAg,upd]
  by_cases e:t=p
  ·subst e
   rw [if_pos rfl]
   simp [Array.getD,hN,hpN,aK,upd]
  rw [if_neg e]
  simp only [Array.getD_eq_getD_getElem?,Array.getElem?_setIfInBounds_ne (Ne.symm e)]
  have:=hvals t
  rw [Array.getD_eq_getD_getElem?] at this
  exact this.mono (PM.le_refl _) fun id hm=>.inl (aZ _ _ fun e=>by subst e;rw [hdf t] at hm;cases hm)
 ·simp only [aAg,upd] at hm
  split at hm
  ·simp only [G.men,beq_iff_eq] at hm
   subst hm
   simp [qG,upd]
  exact hne id (wfr t id hm)
 ·simp only [qG,upd] at hm
  split at hm
  ·simp only [Ob.men] at hm
   rw [gU] at hm;cases hm
  exact hne id (wfh j id hm)
 ·rcases hb' with hb'|⟨i,hb'⟩
  ·exact .inl (.inl hb')
  by_cases e:i=95000
  ·subst e
   simp only [qG,aX,bQ,Option.some.injEq] at hb'
   subst hb';exact .inr (by simp)
  refine .inl (.inr ⟨i,?_⟩)
  simp only [qG,aZ _ _ e] at hb'
  cases ho:h i<;>rw [ho] at hb'<;>simp only [bQ,aZ _ _ e,reduceCtorEq] at hb' ⊢<;>exact hb'
 rcases hb' with hb'|⟨i,hb'⟩
 ·exact .inl hb'
 have e:i≠95000:=fun e=>by subst e;rw [hd] at hb';simp [bQ] at hb'
 refine .inr ⟨i,?_⟩
 simp only [qG,aZ _ _ e]
 cases ho:h i<;>rw [ho] at hb'<;>simp only [bQ,aZ _ _ e,reduceCtorEq] at hb' ⊢<;>exact hb'
theorem aI8 (ok:L.Ok) {k:Nat} {h:Nat→Ob} {A:E.α} {x:List Y0} {vs:List Value} {B:List Nat} (hI:L.I k h A) (hx:L.xs[k]? = some x) {l:Nat} {bs:List (Nat×Obj)} {fn:FuncId} {D:Nat} {ps:Array Tmp} (hps:ps.toList=L.ps)
  (hfn:L.pan=true→(Pg.funcs[fn]?).isSome=true) (hlb:∀p∈bs,p.1≠l) (H:Lp C ⟨L.fr,h,A,L.df⟩ a ((l,.loop (gO fn a.tmps ps L.assign L.body D .ready none))::bs) S π w) (hv:iH π w x vs B) (hB:vH S π w B) :
  RoundIn (MF Pg none) 0 Pg l fn ((ps.zip ⟨vs⟩).foldl (fun t (p,v)=>t.setIfInBounds p v) a.tmps) L.assign L.body w fun e w'=>∃(b:YR) (s':LS E) (S':Nat→Prop) (π':PM),(match b with|.b b=>e = .returned (.bool b)|.p p=>∃v,e = .panicked [{ v,recovered:=false }]∧aS π' p v) ∧
   (match b,s' with
    |.b true,.run k' h' A'=>k'=k+1∧L.I (k+1) h' A'∧Lp C ⟨L.fr,h',A',L.df⟩ a ((l,.loop (gO fn a.tmps ps L.assign L.body D .ready none))::bs) S' π' w'
    |.b false,.jump c h' A'=>∃e,jmp e=some c∧L.K e h' A'∧Lp C ⟨L.fr,h',A',L.df⟩ a ((l,.loop (gO fn a.tmps ps L.assign L.body D .done (some c)))::bs) S' π' w'
    |.p p,.dead p' h' A'=>p'=p∧L.KP p h' A'∧Lp C ⟨L.fr,h',A',L.df⟩ a ((l,.loop (gO fn a.tmps ps L.assign L.body D .busy none))::bs) S' π' w'
    |_,_=>False)∧(∀b o v,π' b o=some v→w'.cell? ⟨b,o,none⟩=some v)∧(∀b,S' b→b<w'.heap.size)∧cH (fun b=>S b∨b∈B) w π S' w' π':=by
 obtain ⟨ρ,S0,H,hb,hS⟩:=H
 obtain ⟨wf1,hlim⟩:=ok.wfI k h A hI
 let o1:=gO fn a.tmps ps L.assign L.body D .ready none
 let o2:=gO fn a.tmps ps L.assign L.body D .busy none
 have hxm:=List.mem_of_getElem? hx
 have hBo:∀b∈B,¬Own ρ h S0 b∧∀o,π b o=none:=fun b hb'=>⟨fun ho=>hB.out b hb' ((hS b).2 (.inl ho)),hB.unk b hb'⟩
 obtain ⟨ρ1,R0,hρ1,hpv,hps2,hw1,hw2,hown1,hown2⟩:=aD2 H.rel (ok.shp x hxm) (ok.len x hxm) hv hBo H.size ok.ps H.vals (fun id hid=>Nat.lt_of_lt_of_le (hlim id hid) ok.limOk) H.wfr H.wfh
 have hbp:∀p∈(l,Obj.loop o1)::bs,w.heap[p.1]? = some p.2∧¬Own ρ1 (qG h x) S0 p.1:=fun p hp=>⟨(hb p hp).1,fun ho=>by
  rcases hown1 _ ho with h1|h1
  ·exact (hb p hp).2 h1
  exact hB.out _ h1 ((hS _).2 (.inr ⟨p,hp,rfl⟩))⟩
 have hR1:=aD0 R0 hbp
 have htm:(ps.zip ⟨vs⟩).foldl (fun t (p,v)=>t.setIfInBounds p v) a.tmps=(L.ps.zip vs).foldl (fun t (p,v)=>t.setIfInBounds p v) a.tmps:=by
  rw [←hps,←Array.foldl_toList]
  simp
 refine aHm ?_
 let C1:Cx (E.guard ((l,.loop o1)::bs)):=⟨Own ρ1 (qG h x) fun b=>S0 b∨∃p∈(l,Obj.loop o1)::bs,p.1=b,w,π,ρ1,C.N,L.lim,ok.limOk⟩
 have hSt1:St C1 ⟨aAg L.fr L.ps x,qG h x,A,[]⟩ { tmps:=(ps.zip ⟨vs⟩).foldl (fun t (p,v)=>t.setIfInBounds p v) a.tmps,defers:=[] } w π ρ1 (fun b=>S0 b∨∃p∈(l,Obj.loop o1)::bs,p.1=b):=
  ⟨htm ▸ hps2,fun t=>htm ▸ hpv t,rfl,hR1,cH.refl _ _ _,fun _ _=>.inl rfl,hw1,hw2,fun g hg=>by cases hg⟩
 refine wpIn_mono ((ok.round k h A x hI hx l _ C1 rfl rfl).run _ _ ⟨π,ρ1,_,hSt1⟩) fun e1 a1 w1 k1=>?_
 cases e1 with
 |panic ch=>obtain ⟨_,_,_,_,_,_,_,_,_,hq⟩:=k1;exact hq.elim
 |outgrown=>exact k1
 |exit id=>obtain ⟨_,_,hq⟩:=k1;exact hq.elim
 |goto id=>obtain ⟨_,_,hq⟩:=k1;exact hq.elim
 |ret=>obtain ⟨_,_,hq⟩:=k1;exact hq.elim
 |normal=>
  obtain ⟨σ1,⟨π1,ρ2,S1,H1⟩,hq⟩:=k1
  obtain ⟨S01,R1,hb1,hS1⟩:=yF H1.rel
  have hl1:=(hb1 _ (List.mem_cons_self ..)).1
  have hlt1:=(Array.getElem?_eq_some_iff.1 hl1).1
  have hnc1:∀o',w1.heap[l]? = some o'→o'.isCells=false:=fun o' ho=>by rw [hl1] at ho;cases ho;rfl
  refine ⟨_,run_beginRound hl1 rfl,?_⟩
  let w2:=w1.putObj l (.loop o2)
  have hl2:w2.heap[l]? = some (.loop o2):=World.putObj_heap_same hlt1
  have R2:Rel E π1 ρ2 σ1.h σ1.A S01 w2:=R1.other (hb1 _ (List.mem_cons_self ..)).2 hnc1
  have hb2:∀p∈(l,Obj.loop o2)::bs,w2.heap[p.1]? = some p.2∧¬Own ρ2 σ1.h S01 p.1:=fun p hp=>by
   rcases List.mem_cons.1 hp with rfl|hp
   ·exact ⟨hl2,(hb1 _ (List.mem_cons_self ..)).2⟩
   have:=hb1 p (List.mem_cons_of_mem _ hp)
   exact ⟨(World.putObj_heap_other (hlb p hp)).trans this.1,this.2⟩
  let S2:Nat→Prop:=fun b=>S01 b∨∃p∈(l,Obj.loop o2)::bs,p.1=b
  let C2:Cx (E.guard ((l,.loop o2)::bs)):=⟨Own ρ2 σ1.h S2,w2,π1,ρ2,C.N,L.lim,ok.limOk⟩
  have hSt2:St C2 ⟨σ1.fr,σ1.h,σ1.A,σ1.df⟩ a1 w2 π1 ρ2 S2:=⟨H1.size,H1.vals,H1.defs,aD0 R2 hb2,cH.refl _ _ _,fun _ _=>.inl rfl,H1.wfr,H1.wfh,H1.wfd⟩
  have hsets:∀b,(∃p∈(l,Obj.loop o1)::bs,p.1=b)↔∃p∈(l,Obj.loop o2)::bs,p.1=b:=fun b=>by simp
  have hT12:cH (fun b=>S b∨b∈B) w π (Own ρ2 σ1.h S2) w2 π1:=by
   have t1:cH (fun b=>S b∨b∈B) w π (Own ρ2 σ1.h S1) w1 π1:=H1.trans.weaken fun b hb'=>by
    rcases (kN (fun _=>Iff.rfl) b).1 hb' with h1|h1
    ·exact (hown1 b h1).imp (fun h=>(hS b).2 (.inl h)) id
    exact .inl ((hS b).2 (.inr h1))
   have t2:cH (Own ρ2 σ1.h S1) w1 π1 (Own ρ2 σ1.h S1) w2 π1:=uI ((kN hS1 l).2 (.inr ⟨_,List.mem_cons_self ..,rfl⟩))
   refine (t1.trans t2).shrink fun b hb'=>(kN hS1 b).2 ?_
   exact ((kN (S1:=S2) (fun _=>Iff.rfl) b).1 hb').imp id (hsets b).2
  have fin:∀(jump:Option Code) (σ3:Sg (E.guard ((l,.loop o2)::bs))) (a3:Act) (w3:World),Holds C2 σ3 a3 w3→L.wf σ3.h →
    (Instr.endRound l jump).run Pg w3 = .ok (.bool jump.isNone) (w3.putObj l (.loop (gO fn a.tmps ps L.assign L.body D (if jump.isNone then .ready else .done) jump)))∧∃S' π',
     Lp C ⟨L.fr,σ3.h,σ3.A,L.df⟩ a ((l,.loop (gO fn a.tmps ps L.assign L.body D (if jump.isNone then .ready else .done) jump))::bs) S' π' (w3.putObj l (.loop (gO fn a.tmps ps L.assign L.body D (if jump.isNone then .ready else .done) jump))) ∧
     (∀b o v,π' b o=some v→(w3.putObj l (.loop (gO fn a.tmps ps L.assign L.body D (if jump.isNone then .ready else .done) jump))).cell? ⟨b,o,none⟩=some v) ∧
     (∀b,S' b→b<(w3.putObj l (.loop (gO fn a.tmps ps L.assign L.body D (if jump.isNone then .ready else .done) jump))).heap.size) ∧
     cH (fun b=>S b∨b∈B) w π S' (w3.putObj l (.loop (gO fn a.tmps ps L.assign L.body D (if jump.isNone then .ready else .done) jump))) π':=fun jump σ3 a3 w3 ⟨π3,ρ3,S3,H3⟩ hwf3=>by
   obtain ⟨S03,R3,hb3,hS3⟩:=yF H3.rel
   have hl3:=(hb3 _ (List.mem_cons_self ..)).1
   have hlt3:=(Array.getElem?_eq_some_iff.1 hl3).1
   have hnc3:∀o',w3.heap[l]? = some o'→o'.isCells=false:=fun o' ho=>by rw [hl3] at ho;cases ho;rfl
   have hle:PM.le π π3:=PM.le_trans H1.trans.le H3.trans.le
   have hst:∀j,j<L.lim→fL (ρ j) (ρ3 j):=fun j hj=>by have h1:=H1.step j hj;rw [show C1.ρ0 j=ρ j from hρ1 j (Nat.lt_of_lt_of_le hj ok.limOk)] at h1;exact h1.trans (H3.step j hj)
   let o4:=gO fn a.tmps ps L.assign L.body D (if jump.isNone then .ready else .done) jump
   let S4:Nat→Prop:=fun b=>Own ρ3 σ3.h S03 b∨∃p∈(l,Obj.loop o4)::bs,p.1=b
   have hLS:LSt C ⟨L.fr,σ3.h,σ3.A,L.df⟩ a w3 π3 ρ3 S03:=
    ⟨H.size,fun t=>(H.vals t).mono hle fun id hm=>hst id (hlim id (H.wfr t id hm)),H.defs.mono hle fun id g hg hm=>hst id (hlim id (H.wfd g hg id hm)),R3,
     fun j hj=>(H.step j hj).trans (hst j (Nat.lt_of_lt_of_le hj ok.limC)),hwf3.1,H3.wfh,hwf3.2⟩
   have hb4:∀p∈(l,Obj.loop o4)::bs,(w3.putObj l (.loop o4)).heap[p.1]? = some p.2∧¬Own ρ3 σ3.h S03 p.1:=fun p hp=>by
    rcases List.mem_cons.1 hp with rfl|hp
    ·exact ⟨World.putObj_heap_same hlt3,(hb3 _ (List.mem_cons_self ..)).2⟩
    have:=hb3 p (List.mem_cons_of_mem _ hp)
    exact ⟨(World.putObj_heap_other (hlb p hp)).trans this.1,this.2⟩
   refine ⟨run_endRound jump hl3,S4,π3,⟨ρ3,S03,hLS.other (hb3 _ (List.mem_cons_self ..)).2 hnc3,hb4,fun _=>Iff.rfl⟩,wR R3.know hnc3,fun b hb'=>?_,?_⟩
   ·rcases hb' with (hb'|⟨id,hb'⟩)|⟨p,hp,rfl⟩
    ·simpa using R3.inb b hb'
    ·simpa using (R3.objs id).lt hb'
    exact (Array.getElem?_eq_some_iff.1 (hb4 p hp).1).1
   have t3:cH (fun b=>S b∨b∈B) w π (Own ρ3 σ3.h S3) w3 π3:=hT12.trans H3.trans
   have t4:cH (Own ρ3 σ3.h S3) w3 π3 (Own ρ3 σ3.h S3) (w3.putObj l (.loop o4)) π3:=uI ((kN hS3 l).2 (.inr ⟨_,List.mem_cons_self ..,rfl⟩))
   refine (t3.trans t4).shrink fun b hb'=>(kN hS3 b).2 (hb'.imp id fun ⟨p,hp,e⟩=>?_)
   rcases List.mem_cons.1 hp with rfl|hp
   ·exact ⟨_,List.mem_cons_self ..,e⟩
   exact ⟨p,List.mem_cons_of_mem _ hp,e⟩
  refine wpIn_mono ((hq _ C2 rfl rfl ⟨_,List.mem_cons_self ..⟩).run a1 w2 ⟨π1,ρ2,S2,hSt2⟩) fun e3 a3 w3 k3=>?_
  have jumps:∀(e:GE) (c:Code),jmp e=some c→(∃σ2,Holds C2 σ2 a3 w3∧∃σ3,Le C2 σ2 σ3∧L.K e σ3.h σ3.A)→∃v w4,(Instr.endRound l (some c)).run Pg w3 = .ok v w4∧∃(b:YR) (s':LS E) (S':Nat→Prop) (π':PM),(match b with|.b b=>Ending.returned v = .returned (.bool b)|.p p=>∃v',Ending.returned v = .panicked [{ v:=v',recovered:=false }]∧aS π' p v') ∧
    (match b,s' with
     |.b true,.run k' h' A'=>k'=k+1∧L.I (k+1) h' A'∧Lp C ⟨L.fr,h',A',L.df⟩ a ((l,.loop (gO fn a.tmps ps L.assign L.body D .ready none))::bs) S' π' w4
     |.b false,.jump c h' A'=>∃e,jmp e=some c∧L.K e h' A'∧Lp C ⟨L.fr,h',A',L.df⟩ a ((l,.loop (gO fn a.tmps ps L.assign L.body D .done (some c)))::bs) S' π' w4
     |.p p,.dead p' h' A'=>p'=p∧L.KP p h' A'∧Lp C ⟨L.fr,h',A',L.df⟩ a ((l,.loop (gO fn a.tmps ps L.assign L.body D .busy none))::bs) S' π' w4
     |_,_=>False)∧(∀b o v,π' b o=some v→w4.cell? ⟨b,o,none⟩=some v)∧(∀b,S' b→b<w4.heap.size)∧cH (fun b=>S b∨b∈B) w π S' w4 π':=fun e c hj ⟨σ2,H2,σ3,hle,hK⟩=>by
   obtain ⟨hr,S',π',f1,f2,f3,f4⟩:=fin (some c) σ3 a3 w3 (hle _ _ H2) (ok.wfK _ _ _ hK)
   exact ⟨_,_,hr,.b false,.jump c σ3.h σ3.A,S',π',rfl,⟨e,hj,hK,f1⟩,f2,f3,f4⟩
  cases e3 with
  |panic ch=>
   obtain ⟨σ3,p,v,π3,ρ3,S3,hch,hpv3,H3,hdf3,h',hsub,hK⟩:=k3
   obtain ⟨S03,R3,hb3,hS3⟩:=yF H3.rel
   have hwf3:=(ok.wfP _ _ _ hK).2
   have hle:PM.le π π3:=PM.le_trans H1.trans.le H3.trans.le
   have hst:∀j,j<L.lim→fL (ρ j) (ρ3 j):=fun j hj=>by have h1:=H1.step j hj;rw [show C1.ρ0 j=ρ j from hρ1 j (Nat.lt_of_lt_of_le hj ok.limOk)] at h1;exact h1.trans (H3.step j hj)
   have hdd:a3.defers=[]:=by have:=H3.defs;rw [hdf3] at this;exact this
   let S4:Nat→Prop:=fun b=>Own ρ3 h' S03 b∨∃p∈(l,Obj.loop o2)::bs,p.1=b
   have hLS:LSt C ⟨L.fr,h',σ3.A,L.df⟩ a w3 π3 ρ3 S03:=
    ⟨H.size,fun t=>(H.vals t).mono hle fun id hm=>hst id (hlim id (H.wfr t id hm)),H.defs.mono hle fun id g hg hm=>hst id (hlim id (H.wfd g hg id hm)),R3.sub hsub,
     fun j hj=>(H.step j hj).trans (hst j (Nat.lt_of_lt_of_le hj ok.limC)),hwf3.1,hsub.wf,hwf3.2⟩
   refine ⟨hdd,hfn (ok.wfP _ _ _ hK).1,.p p,.dead p h' σ3.A,S4,π3,⟨v,by rw [hch],hpv3⟩,⟨rfl,hK,ρ3,S03,hLS,fun q hq=>⟨(hb3 q hq).1,fun ho=>(hb3 q hq).2 (Own.sub hsub ho)⟩,fun _=>Iff.rfl⟩,R3.know,fun b hb'=>?_,?_⟩
   ·rcases hb' with (hb'|⟨id,hb'⟩)|⟨p,hp,rfl⟩
    ·exact R3.inb b hb'
    ·exact ((R3.sub hsub).objs id).lt hb'
    exact (Array.getElem?_eq_some_iff.1 (hb3 p hp).1).1
   refine (hT12.trans H3.trans).shrink fun b hb'=>(kN hS3 b).2 (hb'.imp (fun h=>Own.sub hsub h) id)
  |outgrown=>exact k3
  |exit id=>exact jumps (.exit id) _ rfl k3
  |goto id=>exact jumps (.goto id) _ rfl k3
  |ret=>exact jumps .ret _ rfl k3
  |normal=>
   obtain ⟨σ2,H2,σ3,hle,hI3⟩:=k3
   obtain ⟨hr,S',π',f1,f2,f3,f4⟩:=fin none σ3 a3 w3 (hle _ _ H2) (ok.wfI _ _ _ hI3).1
   exact ⟨_,_,hr,.b true,.run (k+1) σ3.h σ3.A,S',π',rfl,⟨rfl,hI3,f1⟩,f2,f3,f4⟩
end
end Go.Gh
