/- What functions of the program return, each for every input that its theorem names. Made small by a program of ours. -/
import Derived.Test.YtecmhhpccmaeiaaGreatDoorC2
set_option linter.unusedVariables false
set_option linter.unusedSimpArgs false
set_option maxRecDepth 100000
set_option maxHeartbeats 4000000
namespace Go.Proofs.YtecmhhpccmaeiaaGreatDoor
section
open Go.Gh
variable {E:Env Tryz.prog} {A:E.α}
theorem aMk:aJ Tryz.prog 98:=aJ.mk Tryz.func98 (by kernel_rfl) rfl
theorem aKo (xs:List Str) (n u v a b:Int) (hs:cG xs) (h1:nA xs=some n) (h2:dD xs.tail=some (u,v)) (h3:dD xs.tail.tail=some (a,b)):Gh.bD E 98 [.ref 0 0] (aG [(0,.cells [.p (bW xs)] 0)]) A (fun y=>y = .ok (.p (.iface 168 (.agg [.int .i64 n,.int .i64 u,.int .i64 v,.int .i64 a,.int .i64 b]))) (aG [(0,.cells [.p (bW xs.tail.tail.tail)] 0)]) A):=by
 refine spX 11 Tryz.func98 rfl ?_
 intro C hN hL
 simp only [Gh.num,List.map_cons,List.map_nil,Nat.reduceAdd]
 repeat apply aA
 apply aB
 refine v0 ?_
 apply aC
 refine cl [0] ?_
 repeat apply aA
 apply aB
 refine v0 ?_
 refine oc0 [(0,0)] [] [0] none (spec:=pH xs n hs h1) (hent:=sW) ?_
 refine v0 ?_
 refine oc0 [(0,0)] [] [0] none (spec:=eK xs.tail u v (cV hs) h2) (hent:=eO) ?_
 refine v0 ?_
 refine oc0 [(0,0)] [] [0] none (spec:=eK xs.tail.tail a b (cV (cV hs)) h3) (hent:=eO) ?_
 iterate 3 refine v0 ?_
 apply aC
 repeat apply aA
 refine aL ?_
 repeat (first|refine aH ?_|refine aE ?_|refine aD ?_)
 refine aM ?_
 refine fh [0] ?_
 rfl
theorem aH6 (xs:List Str) (hs:cG xs) (h1:nA xs=none):Gh.bD E 98 [.ref 0 0] (aG [(0,.cells [.p (bW xs)] 0)]) A (fun y=>y = .panic (.iface 218 (.agg [.int .i64 8])) (aG [(0,.cells [.p (bW xs.tail)] 0)]) A):=by
 refine spX 11 Tryz.func98 rfl ?_
 intro C hN hL
 simp only [Gh.num,List.map_cons,List.map_nil,Nat.reduceAdd]
 repeat apply aA
 apply aB
 refine v0 ?_
 apply aC
 refine cl [0] ?_
 repeat apply aA
 apply aB
 refine v0 ?_
 refine op0 [(0,0)] [] [0] none (spec:=aAw xs hs h1) (hent:=sW) ?_
 repeat (first|refine aO ?_|refine aN ?_)
 refine fph [0] ?_
 rfl
theorem aH7 (xs:List Str) (n:Int) (hs:cG xs) (h1:nA xs=some n) (h2:dD xs.tail=none):Gh.bD E 98 [.ref 0 0] (aG [(0,.cells [.p (bW xs)] 0)]) A (fun y=>y = .panic (.iface 218 (.agg [.int .i64 8])) (aG [(0,.cells [.p (bW xs.tail.tail)] 0)]) A):=by
 refine spX 11 Tryz.func98 rfl ?_
 intro C hN hL
 simp only [Gh.num,List.map_cons,List.map_nil,Nat.reduceAdd]
 repeat apply aA
 apply aB
 refine v0 ?_
 apply aC
 refine cl [0] ?_
 repeat apply aA
 apply aB
 refine v0 ?_
 refine oc0 [(0,0)] [] [0] none (spec:=pH xs n hs h1) (hent:=sW) ?_
 refine v0 ?_
 refine op0 [(0,0)] [] [0] none (spec:=lD xs.tail (cV hs) h2) (hent:=eO) ?_
 repeat (first|refine aO ?_|refine aN ?_)
 refine fph [0] ?_
 rfl
theorem aH8 (xs:List Str) (n u v:Int) (hs:cG xs) (h1:nA xs=some n) (h2:dD xs.tail=some (u,v)) (h3:dD xs.tail.tail=none):Gh.bD E 98 [.ref 0 0] (aG [(0,.cells [.p (bW xs)] 0)]) A (fun y=>y = .panic (.iface 218 (.agg [.int .i64 8])) (aG [(0,.cells [.p (bW xs.tail.tail.tail)] 0)]) A):=by
 refine spX 11 Tryz.func98 rfl ?_
 intro C hN hL
 simp only [Gh.num,List.map_cons,List.map_nil,Nat.reduceAdd]
 repeat apply aA
 apply aB
 refine v0 ?_
 apply aC
 refine cl [0] ?_
 repeat apply aA
 apply aB
 refine v0 ?_
 refine oc0 [(0,0)] [] [0] none (spec:=pH xs n hs h1) (hent:=sW) ?_
 refine v0 ?_
 refine oc0 [(0,0)] [] [0] none (spec:=eK xs.tail u v (cV hs) h2) (hent:=eO) ?_
 refine v0 ?_
 refine op0 [(0,0)] [] [0] none (spec:=lD xs.tail.tail (cV (cV hs)) h3) (hent:=eO) ?_
 repeat (first|refine aO ?_|refine aN ?_)
 refine fph [0] ?_
 rfl
def aGS (r:List Str):List Str:=match nA r with
 |none=>r.tail
 |some _=>match dD r.tail with
  |none=>r.tail.tail
  |some _=>r.tail.tail.tail
theorem aKp (xs:List Str) (h:Int×(Int×Int)×(Int×Int)) (hs:cG xs) (hh:xE xs=some h):Gh.bD E 98 [.ref 0 0] (aG [(0,.cells [.p (bW xs)] 0)]) A (fun y=>y = .ok (.p (.iface 168 (.agg [.int .i64 h.1,.int .i64 h.2.1.1,.int .i64 h.2.1.2,.int .i64 h.2.2.1,.int .i64 h.2.2.2]))) (aG [(0,.cells [.p (bW xs.tail.tail.tail)] 0)]) A):=by
 unfold xE at hh
 split at hh
 ·cases hh
 rename_i n h1
 split at hh
 ·cases hh
 rename_i u h2
 split at hh
 ·cases hh
 rename_i v h3
 cases hh
 exact aKo xs n u.1 u.2 v.1 v.2 hs h1 h2 h3
theorem aKq (xs:List Str) (hs:cG xs) (hh:xE xs=none):Gh.bD E 98 [.ref 0 0] (aG [(0,.cells [.p (bW xs)] 0)]) A (fun y=>y = .panic (.iface 218 (.agg [.int .i64 8])) (aG [(0,.cells [.p (bW (aGS xs))] 0)]) A):=by
 unfold xE at hh
 split at hh
 ·rename_i h1
  unfold aGS
  rw [h1]
  exact aH6 xs hs h1
 rename_i n h1
 split at hh
 ·rename_i h2
  unfold aGS
  rw [h1]
  simp only
  rw [h2]
  exact aH7 xs n hs h1 h2
 rename_i u h2
 split at hh
 ·rename_i h3
  unfold aGS
  rw [h1]
  simp only
  rw [h2]
  exact aH8 xs n u.1 u.2 hs h1 h2 h3
 cases hh
theorem aDz:aJ Tryz.prog 103:=aJ.mk Tryz.func103 (by kernel_rfl) rfl
theorem aLV (xs:List Str) (n k w:Int) (hs:cG xs) (h1:nA xs=some n) (h2:nA xs.tail=some k):Gh.bD E 103 [.ref 0 0,.p (.ptr [.int .i64 w])] (aG [(0,.cells [.p (bW xs)] 0)]) A (fun y=>y = .ok (.p (.iface 172 (.agg [.int .i64 n,.int .i64 k,.bool (decide (w=1))]))) (aG [(0,.cells [.p (bW xs.tail.tail)] 0)]) A):=by
 refine spX 12 Tryz.func103 rfl ?_
 intro C hN hL
 simp only [Gh.num,List.map_cons,List.map_nil,Nat.reduceAdd]
 repeat apply aA
 apply aB
 refine v0 ?_
 apply aC
 refine cl [0,1] ?_
 repeat apply aA
 refine pr0 1 ?_
 refine rd ?_
 refine da0 0 ?_
 refine dW 1 [(0,0)] [] [0] none (spec:=pH xs n hs h1) (hent:=sW) ?_
 refine da0 2 ?_
 refine dW 3 [(0,0)] [] [0] none (spec:=pH xs.tail k (cV hs) h2) (hent:=sW) ?_
 refine d0 4 ?_
 refine d0 5 ?_
 refine d0 6 ?_
 refine d0 7 ?_
 refine da0 8 ?_
 refine dz 9 [0,1,0,7,0,16,63,127,255] ?_
 refine de 9 ?_
 repeat apply aA
 refine aL ?_
 repeat (first|refine aH ?_|refine aE ?_|refine aD ?_)
 refine aM ?_
 refine fh [0] ?_
 rfl
theorem aKr (xs:List Str) (w:Int) (hs:cG xs) (h1:nA xs=none):Gh.bD E 103 [.ref 0 0,.p (.ptr [.int .i64 w])] (aG [(0,.cells [.p (bW xs)] 0)]) A (fun y=>y = .panic (.iface 218 (.agg [.int .i64 8])) (aG [(0,.cells [.p (bW xs.tail)] 0)]) A):=by
 refine spX 12 Tryz.func103 rfl ?_
 intro C hN hL
 simp only [Gh.num,List.map_cons,List.map_nil,Nat.reduceAdd]
 repeat apply aA
 apply aB
 refine v0 ?_
 apply aC
 refine cl [0,1] ?_
 repeat apply aA
 refine pr0 1 ?_
 refine rd ?_
 refine da0 0 ?_
 refine psS 1 ?_
 refine psa 2 ?_
 refine psd 3 ?_
 refine psv 4 ?_
 refine psv 5 ?_
 refine psd 6 ?_
 refine psd 7 ?_
 refine psd 8 ?_
 refine pse 1 [0,1,0,7,0,16,63,127,255] [4] ?_
 refine dpe [(0,0)] [] [0] none (spec:=aAw xs hs h1) (hent:=sW) ?_
 repeat (first|refine aO ?_|refine aN ?_)
 refine fph [0] ?_
 rfl
theorem aKs (xs:List Str) (n w:Int) (hs:cG xs) (h1:nA xs=some n) (h2:nA xs.tail=none):Gh.bD E 103 [.ref 0 0,.p (.ptr [.int .i64 w])] (aG [(0,.cells [.p (bW xs)] 0)]) A (fun y=>y = .panic (.iface 218 (.agg [.int .i64 8])) (aG [(0,.cells [.p (bW xs.tail.tail)] 0)]) A):=by
 refine spX 12 Tryz.func103 rfl ?_
 intro C hN hL
 simp only [Gh.num,List.map_cons,List.map_nil,Nat.reduceAdd]
 repeat apply aA
 apply aB
 refine v0 ?_
 apply aC
 refine cl [0,1] ?_
 repeat apply aA
 refine pr0 1 ?_
 refine rd ?_
 refine da0 0 ?_
 refine dW 1 [(0,0)] [] [0] none (spec:=pH xs n hs h1) (hent:=sW) ?_
 refine da0 2 ?_
 refine psS 3 ?_
 refine psv 4 ?_
 refine psv 5 ?_
 refine psd 6 ?_
 refine psd 7 ?_
 refine psd 8 ?_
 refine pse 3 [0,1,0,7,0,16,63,127,255] [6] ?_
 refine dpe [(0,0)] [] [0] none (spec:=aAw xs.tail (cV hs) h2) (hent:=sW) ?_
 repeat (first|refine aO ?_|refine aN ?_)
 refine fph [0] ?_
 rfl
def aOe (r:List Str):List Str:=match nA r with
 |none=>r.tail
 |some _=>r.tail.tail
theorem aGT (xs:List Str) (w:Int) (s:Stg) (hs:cG xs) (hh:xF xs (decide (w=1))=some s):Gh.bD E 103 [.ref 0 0,.p (.ptr [.int .i64 w])] (aG [(0,.cells [.p (bW xs)] 0)]) A (fun y=>y = .ok (.p (.iface 172 (fK s))) (aG [(0,.cells [.p (bW xs.tail.tail)] 0)]) A):=by
 unfold xF at hh
 split at hh
 ·cases hh
 rename_i n h1
 split at hh
 ·cases hh
 rename_i k h2
 cases hh
 exact aLV xs n k w hs h1 h2
theorem aGU (xs:List Str) (w:Int) (rv:Bool) (hs:cG xs) (hh:xF xs rv=none):Gh.bD E 103 [.ref 0 0,.p (.ptr [.int .i64 w])] (aG [(0,.cells [.p (bW xs)] 0)]) A (fun y=>y = .panic (.iface 218 (.agg [.int .i64 8])) (aG [(0,.cells [.p (bW (aOe xs))] 0)]) A):=by
 unfold xF at hh
 split at hh
 ·rename_i h1
  unfold aOe
  rw [h1]
  exact aKr xs w hs h1
 rename_i n h1
 split at hh
 ·rename_i h2
  unfold aOe
  rw [h1]
  exact aKs xs n w hs h1 h2
 cases hh
end
section
open Go.Gh
variable {E:Env Tryz.prog} {A:E.α}
structure zC (c:Prop):Prop where
 h:c:=by (first|exact True.intro|omega|(simp only [inI];omega)|(simp [P.size,bU,bG,bR,bB,cS,good,G.one,P.one,P.cells]<;>first|omega|assumption|simp_all))
theorem aKt:aJ Tryz.prog 114:=aJ.mk Tryz.func114 (by kernel_rfl) rfl
theorem aKu (xs:List Str) (x v:Int×Int) (hs:cG xs) (h1:dD xs=some (x.1,x.2)) (h2:dD xs.tail=some (v.1,v.2)) (hr:xs.tail.tail=[]):Gh.bD E 114 [.ref 0 0] (aG [(0,.cells [.p (bW xs)] 0)]) A (fun y=>y = .ok (.p (.iface 195 (.agg [.int .i64 x.1,.int .i64 x.2,.int .i64 v.1,.int .i64 v.2,.bool false,.int .i64 0,.int .i64 0,.int .i64 0,.int .i64 0]))) (aG [(0,.cells [.p (bW ([]:List Str))] 0)]) A):=by
 refine spX 27 Tryz.func114 rfl ?_
 intro C hN hL
 simp only [Gh.num,List.map_cons,List.map_nil,Nat.reduceAdd]
 have hst:∀xs:List Str,bW xs = .list (xs.map P.str):=fun _=>rfl
 repeat apply aA
 apply aB
 refine v0 ?_
 apply aC
 refine cl [0] ?_
 repeat apply aA
 apply aB
 refine v0 ?_
 refine oc0 [(0,0)] [] [0] none (spec:=eK xs x.1 x.2 hs h1) (hent:=eO) ?_
 refine v0 ?_
 refine oc0 [(0,0)] [] [0] none (spec:=eK xs.tail v.1 v.2 (cV hs) h2) (hent:=eO) ?_
 refine v0 ?_
 refine n1 130 false (hc:=zC.h {}) ?_
 refine s1 (hc:=zC.h {}) ?_
 apply aC
 refine cl [0,3] ?_
 repeat apply aA
 rw [hr]
 apply aB
 iterate 6 refine v0 ?_
 refine rb 14 false (h:=by (first|with_reducible rfl|exact decide_eq_false (by omega)|rfl|decide)) ?_
 apply aC
 repeat apply aA
 refine cF ?_
 repeat apply aA
 refine aQ ?_
 refine cl [0,3] ?_
 repeat apply aA
 apply aB
 iterate 3 refine v0 ?_
 apply aC
 repeat apply aA
 refine aL ?_
 repeat (first|refine aH ?_|refine aE ?_|refine aD ?_)
 refine aM ?_
 refine fh [0] ?_
 rfl
theorem aKv (xs:List Str) (x v:Int×Int) (hs:cG xs) (h1:dD xs=some (x.1,x.2)) (h2:dD xs.tail=some (v.1,v.2)) (k:Str) (r:List Str) (hr:xs.tail.tail=k::r) (e n:Int×Int) (h3:dD r=some (e.1,e.2)) (h4:dD r.tail=some (n.1,n.2)):Gh.bD E 114 [.ref 0 0] (aG [(0,.cells [.p (bW xs)] 0)]) A (fun y=>y = .ok (.p (.iface 195 (.agg [.int .i64 x.1,.int .i64 x.2,.int .i64 v.1,.int .i64 v.2,.bool (decide (k=[107,110,111,119,110])),.int .i64 e.1,.int .i64 e.2,.int .i64 n.1,.int .i64 n.2]))) (aG [(0,.cells [.p (bW r.tail.tail)] 0)]) A):=by
 refine spX 27 Tryz.func114 rfl ?_
 intro C hN hL
 simp only [Gh.num,List.map_cons,List.map_nil,Nat.reduceAdd]
 have hst:∀xs:List Str,bW xs = .list (xs.map P.str):=fun _=>rfl
 have hs2:cG r:=fun x hx=>hs x (List.mem_of_mem_tail (List.mem_of_mem_tail (by rw [hr];exact List.mem_cons_of_mem _ hx)))
 repeat apply aA
 apply aB
 refine v0 ?_
 apply aC
 refine cl [0] ?_
 repeat apply aA
 apply aB
 refine v0 ?_
 refine oc0 [(0,0)] [] [0] none (spec:=eK xs x.1 x.2 hs h1) (hent:=eO) ?_
 refine v0 ?_
 refine oc0 [(0,0)] [] [0] none (spec:=eK xs.tail v.1 v.2 (cV hs) h2) (hent:=eO) ?_
 refine v0 ?_
 refine n1 130 false (hc:=zC.h {}) ?_
 refine s1 (hc:=zC.h {}) ?_
 apply aC
 refine cl [0,3] ?_
 repeat apply aA
 rw [hr]
 apply aB
 iterate 6 refine v0 ?_
 refine rb 14 true (h:=by (first|with_reducible rfl|exact decide_eq_true (by omega)|rfl|decide)) ?_
 apply aC
 repeat apply aA
 refine cT ?_
 repeat apply aA
 apply aB
 refine v0 ?_
 refine oc0 [(0,0)] [] [0] none (spec:=cO k r) (hent:=dL) ?_
 iterate 2 refine v0 ?_
 refine s1 (hc:=zC.h {}) ?_
 apply aC
 refine cl [0,3] ?_
 repeat apply aA
 apply aB
 refine v0 ?_
 refine oc0 [(0,0)] [] [0] none (spec:=eK r e.1 e.2 hs2 h3) (hent:=eO) ?_
 refine v0 ?_
 refine oc0 [(0,0)] [] [0] none (spec:=eK r.tail n.1 n.2 (cV hs2) h4) (hent:=eO) ?_
 refine v0 ?_
 refine s1 (hc:=zC.h {}) ?_
 refine v0 ?_
 refine s1 (hc:=zC.h {}) ?_
 apply aC
 refine cl [0,3] ?_
 repeat apply aA
 apply aB
 iterate 3 refine v0 ?_
 apply aC
 repeat apply aA
 refine aL ?_
 repeat (first|refine aH ?_|refine aE ?_|refine aD ?_)
 refine aM ?_
 refine fh [0] ?_
 rfl
theorem aH9 (xs:List Str) (hs:cG xs) (h1:dD xs=none):Gh.bD E 114 [.ref 0 0] (aG [(0,.cells [.p (bW xs)] 0)]) A (fun y=>y = .panic (.iface 218 (.agg [.int .i64 8])) (aG [(0,.cells [.p (bW xs.tail)] 0)]) A):=by
 refine spX 27 Tryz.func114 rfl ?_
 intro C hN hL
 simp only [Gh.num,List.map_cons,List.map_nil,Nat.reduceAdd]
 have hst:∀xs:List Str,bW xs = .list (xs.map P.str):=fun _=>rfl
 repeat apply aA
 apply aB
 refine v0 ?_
 apply aC
 refine cl [0] ?_
 repeat apply aA
 apply aB
 refine v0 ?_
 refine op0 [(0,0)] [] [0] none (spec:=lD xs hs h1) (hent:=eO) ?_
 repeat (first|refine aO ?_|refine aN ?_)
 refine fph [0] ?_
 rfl
theorem aIa (xs:List Str) (x:Int×Int) (hs:cG xs) (h1:dD xs=some (x.1,x.2)) (h2:dD xs.tail=none):Gh.bD E 114 [.ref 0 0] (aG [(0,.cells [.p (bW xs)] 0)]) A (fun y=>y = .panic (.iface 218 (.agg [.int .i64 8])) (aG [(0,.cells [.p (bW xs.tail.tail)] 0)]) A):=by
 refine spX 27 Tryz.func114 rfl ?_
 intro C hN hL
 simp only [Gh.num,List.map_cons,List.map_nil,Nat.reduceAdd]
 have hst:∀xs:List Str,bW xs = .list (xs.map P.str):=fun _=>rfl
 repeat apply aA
 apply aB
 refine v0 ?_
 apply aC
 refine cl [0] ?_
 repeat apply aA
 apply aB
 refine v0 ?_
 refine oc0 [(0,0)] [] [0] none (spec:=eK xs x.1 x.2 hs h1) (hent:=eO) ?_
 refine v0 ?_
 refine op0 [(0,0)] [] [0] none (spec:=lD xs.tail (cV hs) h2) (hent:=eO) ?_
 repeat (first|refine aO ?_|refine aN ?_)
 refine fph [0] ?_
 rfl
theorem aIb (xs:List Str) (x v:Int×Int) (hs:cG xs) (h1:dD xs=some (x.1,x.2)) (h2:dD xs.tail=some (v.1,v.2)) (k:Str) (r:List Str) (hr:xs.tail.tail=k::r) (h3:dD r=none):Gh.bD E 114 [.ref 0 0] (aG [(0,.cells [.p (bW xs)] 0)]) A (fun y=>y = .panic (.iface 218 (.agg [.int .i64 8])) (aG [(0,.cells [.p (bW r.tail)] 0)]) A):=by
 refine spX 27 Tryz.func114 rfl ?_
 intro C hN hL
 simp only [Gh.num,List.map_cons,List.map_nil,Nat.reduceAdd]
 have hst:∀xs:List Str,bW xs = .list (xs.map P.str):=fun _=>rfl
 have hs2:cG r:=fun x hx=>hs x (List.mem_of_mem_tail (List.mem_of_mem_tail (by rw [hr];exact List.mem_cons_of_mem _ hx)))
 repeat apply aA
 apply aB
 refine v0 ?_
 apply aC
 refine cl [0] ?_
 repeat apply aA
 apply aB
 refine v0 ?_
 refine oc0 [(0,0)] [] [0] none (spec:=eK xs x.1 x.2 hs h1) (hent:=eO) ?_
 refine v0 ?_
 refine oc0 [(0,0)] [] [0] none (spec:=eK xs.tail v.1 v.2 (cV hs) h2) (hent:=eO) ?_
 refine v0 ?_
 refine n1 130 false (hc:=zC.h {}) ?_
 refine s1 (hc:=zC.h {}) ?_
 apply aC
 refine cl [0,3] ?_
 repeat apply aA
 rw [hr]
 apply aB
 iterate 6 refine v0 ?_
 refine rb 14 true (h:=by (first|with_reducible rfl|exact decide_eq_true (by omega)|rfl|decide)) ?_
 apply aC
 repeat apply aA
 refine cT ?_
 repeat apply aA
 apply aB
 refine v0 ?_
 refine oc0 [(0,0)] [] [0] none (spec:=cO k r) (hent:=dL) ?_
 iterate 2 refine v0 ?_
 refine s1 (hc:=zC.h {}) ?_
 apply aC
 refine cl [0,3] ?_
 repeat apply aA
 apply aB
 refine v0 ?_
 refine op0 [(0,0)] [] [0] none (spec:=lD r hs2 h3) (hent:=eO) ?_
 repeat (first|refine aO ?_|refine aN ?_)
 refine fph [0] ?_
 rfl
theorem aIc (xs:List Str) (x v:Int×Int) (hs:cG xs) (h1:dD xs=some (x.1,x.2)) (h2:dD xs.tail=some (v.1,v.2)) (k:Str) (r:List Str) (hr:xs.tail.tail=k::r) (e:Int×Int) (h3:dD r=some (e.1,e.2)) (h4:dD r.tail=none):Gh.bD E 114 [.ref 0 0] (aG [(0,.cells [.p (bW xs)] 0)]) A (fun y=>y = .panic (.iface 218 (.agg [.int .i64 8])) (aG [(0,.cells [.p (bW r.tail.tail)] 0)]) A):=by
 refine spX 27 Tryz.func114 rfl ?_
 intro C hN hL
 simp only [Gh.num,List.map_cons,List.map_nil,Nat.reduceAdd]
 have hst:∀xs:List Str,bW xs = .list (xs.map P.str):=fun _=>rfl
 have hs2:cG r:=fun x hx=>hs x (List.mem_of_mem_tail (List.mem_of_mem_tail (by rw [hr];exact List.mem_cons_of_mem _ hx)))
 repeat apply aA
 apply aB
 refine v0 ?_
 apply aC
 refine cl [0] ?_
 repeat apply aA
 apply aB
 refine v0 ?_
 refine oc0 [(0,0)] [] [0] none (spec:=eK xs x.1 x.2 hs h1) (hent:=eO) ?_
 refine v0 ?_
 refine oc0 [(0,0)] [] [0] none (spec:=eK xs.tail v.1 v.2 (cV hs) h2) (hent:=eO) ?_
 refine v0 ?_
 refine n1 130 false (hc:=zC.h {}) ?_
 refine s1 (hc:=zC.h {}) ?_
 apply aC
 refine cl [0,3] ?_
 repeat apply aA
 rw [hr]
 apply aB
 iterate 6 refine v0 ?_
 refine rb 14 true (h:=by (first|with_reducible rfl|exact decide_eq_true (by omega)|rfl|decide)) ?_
 apply aC
 repeat apply aA
 refine cT ?_
 repeat apply aA
 apply aB
 refine v0 ?_
 refine oc0 [(0,0)] [] [0] none (spec:=cO k r) (hent:=dL) ?_
 iterate 2 refine v0 ?_
 refine s1 (hc:=zC.h {}) ?_
 apply aC
 refine cl [0,3] ?_
 repeat apply aA
 apply aB
 refine v0 ?_
 refine oc0 [(0,0)] [] [0] none (spec:=eK r e.1 e.2 hs2 h3) (hent:=eO) ?_
 refine v0 ?_
 refine op0 [(0,0)] [] [0] none (spec:=lD r.tail (cV hs2) h4) (hent:=eO) ?_
 repeat (first|refine aO ?_|refine aN ?_)
 refine fph [0] ?_
 rfl
def aKw (xs:List Str):List Str:=match xs.tail.tail with
 |[]=>[]
 |_::r=>r.tail.tail
def aMl (xs:List Str):List Str:=match dD xs with
 |none=>xs.tail
 |some _=>match dD xs.tail with
  |none=>xs.tail.tail
  |some _=>match xs.tail.tail with
   |[]=>[]
   |_::r=>match dD r with
    |none=>r.tail
    |some _=>r.tail.tail
theorem aKx (xs:List Str) (s:nB) (hs:cG xs) (hh:vD xs=some s):Gh.bD E 114 [.ref 0 0] (aG [(0,.cells [.p (bW xs)] 0)]) A (fun y=>y = .ok (.p (.iface 195 (eE s))) (aG [(0,.cells [.p (bW (aKw xs))] 0)]) A):=by
 unfold vD at hh
 split at hh
 ·cases hh
 rename_i x h1
 split at hh
 ·cases hh
 rename_i y h2
 split at hh
 ·rename_i h3
  cases hh
  unfold aKw
  rw [h3]
  exact aKu xs x y hs h1 h2 h3
 rename_i k r h3
 split at hh
 ·cases hh
 rename_i e h4
 split at hh
 ·cases hh
 rename_i n h5
 cases hh
 unfold aKw
 rw [h3]
 exact aKv xs x y hs h1 h2 k r h3 e n h4 h5
theorem aKy (xs:List Str) (hs:cG xs) (hh:vD xs=none):Gh.bD E 114 [.ref 0 0] (aG [(0,.cells [.p (bW xs)] 0)]) A (fun y=>y = .panic (.iface 218 (.agg [.int .i64 8])) (aG [(0,.cells [.p (bW (aMl xs))] 0)]) A):=by
 unfold vD at hh
 unfold aMl
 split at hh
 ·rename_i h1
  rw [h1]
  exact aH9 xs hs h1
 rename_i x h1
 rw [h1]
 simp only
 split at hh
 ·rename_i h2
  rw [h2]
  exact aIa xs x hs h1 h2
 rename_i y h2
 rw [h2]
 simp only
 split at hh
 ·cases hh
 rename_i k r h3
 rw [h3]
 simp only
 split at hh
 ·rename_i h4
  rw [h4]
  exact aIb xs x y hs h1 h2 k r h3 h4
 rename_i e h4
 rw [h4]
 simp only
 split at hh
 ·rename_i h5
  exact aIc xs x y hs h1 h2 k r h3 e h4 h5
 cases hh
end
section
open Go.Gh
variable {E:Env Tryz.prog} {A:E.α}
structure aLW (c:Prop):Prop where
 h:c:=by (first|exact True.intro|omega|(simp [P.size,List.length_map]<;>first|omega|(intro a _;rfl))|(simp [P.size];exact ⟨by omega,fun a _=>rfl⟩)|omega|(simp only [inI];omega)|(simp [P.size,bU,bG,bR,bB,cS,good,G.one,P.one,P.cells]<;>first|omega|assumption|simp_all))
def vG:List Str→List Str
 |[]=>[]
 |x::xs=>match nA (x::xs) with
  |none=>xs
  |some _=>vG xs
theorem aId {x:Str} {r:List Str} {l:List Int} {f:List Int→List Int} (h:(dI (x::r)).map f=some l):∃n,nA (x::r)=some n∧(dI r).map (fun q=>f (n::q))=some l:=by
 rw [dI] at h
 split at h
 ·cases h
 rename_i n e
 refine ⟨n,e,?_⟩
 rw [Option.map_map] at h
 exact h
theorem aIe {x:Str} {r:List Str} (h:dI (x::r)=none):nA (x::r)=none∧vG (x::r)=r∨∃n,nA (x::r)=some n∧dI r=none∧vG (x::r)=vG r:=by
 rw [dI] at h
 rw [vG]
 split at h
 ·rename_i e
  rw [e]
  exact .inl ⟨rfl,rfl⟩
 rename_i n e
 rw [e]
 refine .inr ⟨n,rfl,?_,rfl⟩
 cases e2:dI r with
 |none=>rfl
 |some l=>rw [e2] at h;cases h
theorem aF1:aJ Tryz.prog 119:=aJ.mk Tryz.func119 (by kernel_rfl) rfl
theorem aGV (xs:List Str) (l:List Int) (hs:cG xs) (hlen:xs.length≤100000) (h:dI xs=some l):Gh.bD E 119 [.ref 0 0,.fn (.func 99) [.ref 0 0] []] (aG [(0,.cells [.p (bW xs)] 0)]) A (fun y=>y = .ok (.p (.list (l.map (P.int .i64)))) (aG [(0,.cells [.p (bW [])] 0)]) A):=by
 refine spX 17 Tryz.func119 rfl ?_
 intro C hN hL
 simp only [Gh.num,List.map_cons,List.map_nil,Nat.reduceAdd]
 have hst:∀xs:List Str,bW xs = .list (xs.map P.str):=fun _=>rfl
 repeat apply aA
 apply aB
 refine v0 ?_
 apply aC
 refine cl [0,1,4] ?_
 repeat apply aA
 refine aCk ?_
 repeat apply aA
 refine aCb ?_
 repeat apply aA
 refine aP ?_
 repeat apply aA
 refine yI 4 3000 3 1 true (by simp only [aT,Nat.reduceEqDiff,reduceIte]) (by simp only [aF,aI,Nat.reduceEqDiff,reduceIte]) (by omega) ?_
 refine cJ (fun mz σ=>∃(rest:List Str) (acc:List Int),(cG rest)∧((dI rest).map (fun q=>acc++q)=some l)∧(acc.length+rest.length=xs.length)∧mz=rest.length∧σ=(sg [(0,.ref 0 0),(1,.fn (.func 99) [.ref 0 0] []),(4,.own 3000 acc.length)] [(0,.cells [.p (bW rest)] 0),(3000,.arr 3 1 (acc.map (P.int .i64)) true)] A []:Sg E)) ?_ (fun mz σ hI=>?_)
 ·refine gA [0,1,4] ?_
  exact ⟨_,xs,[],hs,by rw [h];rfl,by simp,rfl,rfl⟩
 obtain ⟨rest,acc,hsr,hq,hal,hnn,rfl⟩:=hI
 repeat apply aA
 refine aP ?_
 repeat apply aA
 apply aB
 iterate 6 refine v0 ?_
 apply aC
 repeat apply aA
 refine cB (k1:=fun hb1=>?_) (k0:=fun hb1=>?_)
 ·replace hb1:=hB.h {} hb1
  repeat apply aA
  refine bY ?_
  repeat (first|refine bI ?_|refine aY ?_|refine bC ?_|refine bJ rfl ?_)
  refine cl [0,4] ?_
  repeat apply aA
  apply aB
  iterate 2 refine v0 ?_
  apply aC
  repeat apply aA
  refine aL ?_
  repeat (first|refine aH ?_|refine aE ?_|refine aD ?_)
  refine aM ?_
  have hr0:rest=[]:=List.eq_nil_of_length_eq_zero (by omega)
  subst hr0
  obtain rfl:acc=l:=by simpa [dI] using hq
  refine fk1 [0] ?_
  rfl
 replace hb1:=hB.h {} hb1
 repeat apply aA
 refine aQ ?_
 refine cl [0,1,4] ?_
 repeat apply aA
 obtain ⟨x,r,rfl⟩:∃x r,rest=x::r:=List.exists_cons_of_ne_nil (fun e=>by subst e;simp at *)
 have hlr:(x::r).length=r.length+1:=rfl
 obtain ⟨n,hn,hq2⟩:=aId hq
 apply aB
 iterate 2 refine v0 ?_
 refine oc0 [(0,0)] [] [0] none (spec:=pH (x::r) n hsr hn) (hent:=sW) ?_
 refine n1 240 false (hc:=aLW.h {}) ?_
 refine n1 250 false (hc:=aLW.h {}) ?_
 refine v0 ?_
 apply aC
 repeat refine bZ ?_
 refine dN [0,1,4] (h:=?_) (hV:=?_) (n':=mz - 1)
 ·omega
 refine ⟨r,acc++[n],cV hsr,?_,?_,?_,sgE ?_ ?_⟩
 ·rw [←hq2];simp
 ·rw [List.length_append];simp;omega
 ·omega
 ·simp
 simp
theorem aLX (xs:List Str) (hs:cG xs) (hlen:xs.length≤100000) (h:dI xs=none):Gh.bD E 119 [.ref 0 0,.fn (.func 99) [.ref 0 0] []] (aG [(0,.cells [.p (bW xs)] 0)]) A (fun y=>y = .panic (.iface 218 (.agg [.int .i64 8])) (aG [(0,.cells [.p (bW (vG xs))] 0)]) A):=by
 refine spX 17 Tryz.func119 rfl ?_
 intro C hN hL
 simp only [Gh.num,List.map_cons,List.map_nil,Nat.reduceAdd]
 have hst:∀xs:List Str,bW xs = .list (xs.map P.str):=fun _=>rfl
 repeat apply aA
 apply aB
 refine v0 ?_
 apply aC
 refine cl [0,1,4] ?_
 repeat apply aA
 refine aCk ?_
 repeat apply aA
 refine aCb ?_
 repeat apply aA
 refine aP ?_
 repeat apply aA
 refine yI 4 3000 3 1 true (by simp only [aT,Nat.reduceEqDiff,reduceIte]) (by simp only [aF,aI,Nat.reduceEqDiff,reduceIte]) (by omega) ?_
 refine cJ (fun mz σ=>∃(rest:List Str) (acc:List Int),(cG rest)∧(dI rest=none)∧(vG rest=vG xs)∧(acc.length+rest.length=xs.length)∧mz=rest.length∧σ=(sg [(0,.ref 0 0),(1,.fn (.func 99) [.ref 0 0] []),(4,.own 3000 acc.length)] [(0,.cells [.p (bW rest)] 0),(3000,.arr 3 1 (acc.map (P.int .i64)) true)] A []:Sg E)) ?_ (fun mz σ hI=>?_)
 ·refine gA [0,1,4] ?_
  exact ⟨_,xs,[],hs,h,rfl,by simp,rfl,rfl⟩
 obtain ⟨rest,acc,hsr,hq,hrr,hal,hnn,rfl⟩:=hI
 repeat apply aA
 refine aP ?_
 repeat apply aA
 apply aB
 iterate 6 refine v0 ?_
 apply aC
 repeat apply aA
 refine cB (k1:=fun hb1=>?_) (k0:=fun hb1=>?_)
 ·replace hb1:=hB.h {} hb1
  repeat apply aA
  refine bY ?_
  repeat (first|refine bI ?_|refine aY ?_|refine bC ?_|refine bJ rfl ?_)
  refine cl [0,4] ?_
  repeat apply aA
  apply aB
  iterate 2 refine v0 ?_
  apply aC
  repeat apply aA
  refine aL ?_
  repeat (first|refine aH ?_|refine aE ?_|refine aD ?_)
  refine aM ?_
  exfalso
  have hr0:rest=[]:=List.eq_nil_of_length_eq_zero (by omega)
  subst hr0
  cases hq
 replace hb1:=hB.h {} hb1
 repeat apply aA
 refine aQ ?_
 refine cl [0,1,4] ?_
 repeat apply aA
 obtain ⟨x,r,rfl⟩:∃x r,rest=x::r:=List.exists_cons_of_ne_nil (fun e=>by subst e;simp at *)
 have hlr:(x::r).length=r.length+1:=rfl
 rcases aIe hq with ⟨hn,hr2⟩|⟨n,hn,hq2,hr2⟩
 ·repeat apply aA
  apply aB
  iterate 2 refine v0 ?_
  refine op0 [(0,0)] [] [0] none (spec:=aAw (x::r) hsr hn) (hent:=sW) ?_
  repeat (first|refine aO ?_|refine aN ?_|refine aW ?_)
  refine fph [0] ?_
  rw [←hrr,hr2]
  rfl
 repeat apply aA
 apply aB
 iterate 2 refine v0 ?_
 refine oc0 [(0,0)] [] [0] none (spec:=pH (x::r) n hsr hn) (hent:=sW) ?_
 refine n1 240 false (hc:=aLW.h {}) ?_
 refine n1 250 false (hc:=aLW.h {}) ?_
 refine v0 ?_
 apply aC
 repeat refine bZ ?_
 refine dN [0,1,4] (h:=?_) (hV:=?_) (n':=mz - 1)
 ·omega
 refine ⟨r,acc++[n],cV hsr,hq2,?_,?_,?_,sgE ?_ ?_⟩
 ·rw [←hrr,hr2]
 ·rw [List.length_append];simp;omega
 ·omega
 ·simp
 simp
end
section
open Go.Gh
variable {E:Env Tryz.prog} {A:E.α}
structure aIf (c:Prop):Prop where
 h:c:=by (first|exact True.intro|omega|(simp only [inI];omega)|(simp [P.size,bU,bG,bR,bB,cS,good,G.one,P.one,P.cells]<;>first|omega|assumption|simp_all))
theorem zD:aJ Tryz.prog 118:=aJ.mk Tryz.func118 (by kernel_rfl) rfl
theorem aBI (xs:List Str) (hs:cG xs) (hlen:xs.length≤100000) (l:List Int) (k:Int) (h:dI xs=some l) (hk:(l.length:Int)=k):Gh.bD E 118 [.ref 0 0,.p (.int .i64 k)] (aG [(0,.cells [.p (bW xs)] 0)]) A (fun y=>y = .ok (.p (.list (l.map (P.int .i64)))) (aG [(0,.cells [.p (bW [])] 0)]) A):=by
 refine spX 16 Tryz.func118 rfl ?_
 intro C hN hL
 simp only [Gh.num,List.map_cons,List.map_nil,Nat.reduceAdd]
 repeat apply aA
 apply aB
 refine v0 ?_
 apply aC
 refine cl [0,1] ?_
 repeat apply aA
 apply aB
 iterate 3 refine v0 ?_
 refine oc0 [(0,0)] [] [0,0] none (spec:=aGV xs l hs hlen h) (hent:=aF1) ?_
 refine v0 ?_
 apply aC
 refine cl [0,1,5] ?_
 repeat apply aA
 apply aB
 iterate 4 refine v0 ?_
 refine rb 13 true (h:=by (first|rfl|exact decide_eq_true hk|(simp [hk];done)|simp)) ?_
 refine pc0 (spec:=bH _) (hent:=bX) ?_
 apply aC
 refine cl [0,5] ?_
 repeat apply aA
 apply aB
 iterate 2 refine v0 ?_
 apply aC
 repeat apply aA
 refine aL ?_
 repeat (first|refine aH ?_|refine aE ?_|refine aD ?_)
 refine aM ?_
 refine fh [0] ?_
 rfl
theorem aIg (xs:List Str) (hs:cG xs) (hlen:xs.length≤100000) (k:Int) (h:dI xs=none):Gh.bD E 118 [.ref 0 0,.p (.int .i64 k)] (aG [(0,.cells [.p (bW xs)] 0)]) A (fun y=>y = .panic (.iface 218 (.agg [.int .i64 8])) (aG [(0,.cells [.p (bW (vG xs))] 0)]) A):=by
 refine spX 16 Tryz.func118 rfl ?_
 intro C hN hL
 simp only [Gh.num,List.map_cons,List.map_nil,Nat.reduceAdd]
 repeat apply aA
 apply aB
 refine v0 ?_
 apply aC
 refine cl [0,1] ?_
 repeat apply aA
 apply aB
 iterate 3 refine v0 ?_
 refine op0 [(0,0)] [] [0,0] none (spec:=aLX xs hs hlen h) (hent:=aF1) ?_
 repeat (first|refine aO ?_|refine aN ?_)
 refine fph [0] ?_
 rfl
theorem aIh (xs:List Str) (hs:cG xs) (hlen:xs.length≤100000) (l:List Int) (k:Int) (h:dI xs=some l) (hk:(l.length:Int)≠k):Gh.bD E 118 [.ref 0 0,.p (.int .i64 k)] (aG [(0,.cells [.p (bW xs)] 0)]) A (fun y=>y = .panic (.iface 218 (.agg [.int .i64 8])) (aG [(0,.cells [.p (bW [])] 0)]) A):=by
 refine spX 16 Tryz.func118 rfl ?_
 intro C hN hL
 simp only [Gh.num,List.map_cons,List.map_nil,Nat.reduceAdd]
 repeat apply aA
 apply aB
 refine v0 ?_
 apply aC
 refine cl [0,1] ?_
 repeat apply aA
 apply aB
 iterate 3 refine v0 ?_
 refine oc0 [(0,0)] [] [0,0] none (spec:=aGV xs l hs hlen h) (hent:=aF1) ?_
 refine v0 ?_
 apply aC
 refine cl [0,1,5] ?_
 repeat apply aA
 apply aB
 iterate 4 refine v0 ?_
 refine rb 13 false (h:=by (first|rfl|exact decide_eq_false hk|(simp [hk];done)|simp)) ?_
 refine pp0 (spec:=cX _) (hent:=bX) ?_
 repeat (first|refine aO ?_|refine aN ?_)
 refine fph [0] ?_
 rfl
def aER (xs:List Str):List Str:=match dI xs with
 |none=>vG xs
 |some _=>[]
theorem aBJ (xs:List Str) (hs:cG xs) (hlen:xs.length≤100000) (k:Int) (h:∀l,dI xs=some l→(l.length:Int)≠k):Gh.bD E 118 [.ref 0 0,.p (.int .i64 k)] (aG [(0,.cells [.p (bW xs)] 0)]) A (fun y=>y = .panic (.iface 218 (.agg [.int .i64 8])) (aG [(0,.cells [.p (bW (aER xs))] 0)]) A):=by
 unfold aER
 cases e:dI xs with
 |none=>exact aIg xs hs hlen k e
 |some l=>exact aIh xs hs hlen l k e (h l e)
theorem aKz:aJ Tryz.prog 121:=aJ.mk Tryz.func121 (by kernel_rfl) rfl
theorem aIi (xs:List Str) (hs:cG xs) (hlen:xs.length≤100000) (a b d:Int) (h:dI xs=some [a,b,d]):Gh.bD E 121 [.ref 0 0,.p (.ptr [.fn (.func 118) [] []])] (aG [(0,.cells [.p (bW xs)] 0)]) A (fun y=>y = .ok (.p (.iface 208 (.agg [.int .i64 a,.int .i64 b,.int .i64 d]))) (aG [(0,.cells [.p (bW [])] 0)]) A):=by
 refine spX 19 Tryz.func121 rfl ?_
 intro C hN hL
 simp only [Gh.num,List.map_cons,List.map_nil,Nat.reduceAdd]
 repeat apply aA
 apply aB
 refine v0 ?_
 apply aC
 refine cl [0,1] ?_
 repeat apply aA
 refine pr0 1 ?_
 apply aB
 iterate 2 refine v0 ?_
 refine oc0 [(0,0)] [] [0,0] none (spec:=aBI xs hs hlen [a,b,d] 3 h (by simp)) (hent:=zD) ?_
 refine v0 ?_
 apply aC
 refine cl [0,4] ?_
 repeat apply aA
 refine rd ?_
 refine d0 0 ?_
 refine d1 1 (hc:=aIf.h {}) ?_
 refine d0 2 ?_
 refine d0 3 ?_
 refine d1 4 (hc:=aIf.h {}) ?_
 refine d0 5 ?_
 refine d0 6 ?_
 refine d1 7 (hc:=aIf.h {}) ?_
 refine d0 8 ?_
 refine d0 9 ?_
 refine d0 10 ?_
 refine d0 11 ?_
 refine dz 12 [0,1,3,0,8,24,0,64,192,511,1023,2047] ?_
 refine de 12 ?_
 repeat apply aA
 refine aL ?_
 repeat (first|refine aH ?_|refine aE ?_|refine aD ?_)
 refine aM ?_
 refine fh [0] ?_
 rfl
theorem aIj (xs:List Str) (hs:cG xs) (hlen:xs.length≤100000) (h:∀l,dI xs=some l→(l.length:Int)≠3):Gh.bD E 121 [.ref 0 0,.p (.ptr [.fn (.func 118) [] []])] (aG [(0,.cells [.p (bW xs)] 0)]) A (fun y=>y = .panic (.iface 218 (.agg [.int .i64 8])) (aG [(0,.cells [.p (bW (aER xs))] 0)]) A):=by
 refine spX 19 Tryz.func121 rfl ?_
 intro C hN hL
 simp only [Gh.num,List.map_cons,List.map_nil,Nat.reduceAdd]
 repeat apply aA
 apply aB
 refine v0 ?_
 apply aC
 refine cl [0,1] ?_
 repeat apply aA
 refine pr0 1 ?_
 apply aB
 iterate 2 refine v0 ?_
 refine op0 [(0,0)] [] [0,0] none (spec:=aBJ xs hs hlen 3 h) (hent:=zD) ?_
 repeat (first|refine aO ?_|refine aN ?_)
 refine fph [0] ?_
 rfl
theorem aKA:aJ Tryz.prog 123:=aJ.mk Tryz.func123 (by kernel_rfl) rfl
theorem aKB (xs:List Str) (hs:cG xs) (hlen:xs.length≤100000) (a b d:Int) (h:dI xs=some [a,b,d]):Gh.bD E 123 [.ref 0 0,.p (.ptr [.fn (.func 118) [] []])] (aG [(0,.cells [.p (bW xs)] 0)]) A (fun y=>y = .ok (.p (.iface 211 (.agg [.int .i64 a,.int .i64 b,.int .i64 d]))) (aG [(0,.cells [.p (bW [])] 0)]) A):=by
 refine spX 19 Tryz.func123 rfl ?_
 intro C hN hL
 simp only [Gh.num,List.map_cons,List.map_nil,Nat.reduceAdd]
 repeat apply aA
 apply aB
 refine v0 ?_
 apply aC
 refine cl [0,1] ?_
 repeat apply aA
 refine pr0 1 ?_
 apply aB
 iterate 2 refine v0 ?_
 refine oc0 [(0,0)] [] [0,0] none (spec:=aBI xs hs hlen [a,b,d] 3 h (by simp)) (hent:=zD) ?_
 refine v0 ?_
 apply aC
 refine cl [0,4] ?_
 repeat apply aA
 refine rd ?_
 refine d0 0 ?_
 refine d1 1 (hc:=aIf.h {}) ?_
 refine d0 2 ?_
 refine d0 3 ?_
 refine d1 4 (hc:=aIf.h {}) ?_
 refine d0 5 ?_
 refine d0 6 ?_
 refine d1 7 (hc:=aIf.h {}) ?_
 refine d0 8 ?_
 refine d0 9 ?_
 refine d0 10 ?_
 refine d0 11 ?_
 refine dz 12 [0,1,3,0,8,24,0,64,192,511,1023,2047] ?_
 refine de 12 ?_
 repeat apply aA
 refine aL ?_
 repeat (first|refine aH ?_|refine aE ?_|refine aD ?_)
 refine aM ?_
 refine fh [0] ?_
 rfl
theorem aKC (xs:List Str) (hs:cG xs) (hlen:xs.length≤100000) (h:∀l,dI xs=some l→(l.length:Int)≠3):Gh.bD E 123 [.ref 0 0,.p (.ptr [.fn (.func 118) [] []])] (aG [(0,.cells [.p (bW xs)] 0)]) A (fun y=>y = .panic (.iface 218 (.agg [.int .i64 8])) (aG [(0,.cells [.p (bW (aER xs))] 0)]) A):=by
 refine spX 19 Tryz.func123 rfl ?_
 intro C hN hL
 simp only [Gh.num,List.map_cons,List.map_nil,Nat.reduceAdd]
 repeat apply aA
 apply aB
 refine v0 ?_
 apply aC
 refine cl [0,1] ?_
 repeat apply aA
 refine pr0 1 ?_
 apply aB
 iterate 2 refine v0 ?_
 refine op0 [(0,0)] [] [0,0] none (spec:=aBJ xs hs hlen 3 h) (hent:=zD) ?_
 repeat (first|refine aO ?_|refine aN ?_)
 refine fph [0] ?_
 rfl
theorem aKD:aJ Tryz.prog 122:=aJ.mk Tryz.func122 (by kernel_rfl) rfl
theorem aIk (xs:List Str) (hs:cG xs) (hlen:xs.length≤100000) (a b:Int) (h:dI xs=some [a,b]):Gh.bD E 122 [.ref 0 0,.p (.ptr [.fn (.func 118) [] []])] (aG [(0,.cells [.p (bW xs)] 0)]) A (fun y=>y = .ok (.p (.iface 210 (.agg [.int .i64 a,.int .i64 b]))) (aG [(0,.cells [.p (bW [])] 0)]) A):=by
 refine spX 10 Tryz.func122 rfl ?_
 intro C hN hL
 simp only [Gh.num,List.map_cons,List.map_nil,Nat.reduceAdd]
 repeat apply aA
 apply aB
 refine v0 ?_
 apply aC
 refine cl [0,1] ?_
 repeat apply aA
 refine pr0 1 ?_
 apply aB
 iterate 2 refine v0 ?_
 refine oc0 [(0,0)] [] [0,0] none (spec:=aBI xs hs hlen [a,b] 2 h (by simp)) (hent:=zD) ?_
 refine sa0 ?_
 iterate 3 refine v0 ?_
 apply aC
 repeat apply aA
 refine aL ?_
 repeat (first|refine aH ?_|refine aE ?_|refine aD ?_)
 refine aM ?_
 refine fh [0] ?_
 rfl
theorem aIl (xs:List Str) (hs:cG xs) (hlen:xs.length≤100000) (h:∀l,dI xs=some l→(l.length:Int)≠2):Gh.bD E 122 [.ref 0 0,.p (.ptr [.fn (.func 118) [] []])] (aG [(0,.cells [.p (bW xs)] 0)]) A (fun y=>y = .panic (.iface 218 (.agg [.int .i64 8])) (aG [(0,.cells [.p (bW (aER xs))] 0)]) A):=by
 refine spX 10 Tryz.func122 rfl ?_
 intro C hN hL
 simp only [Gh.num,List.map_cons,List.map_nil,Nat.reduceAdd]
 repeat apply aA
 apply aB
 refine v0 ?_
 apply aC
 refine cl [0,1] ?_
 repeat apply aA
 refine pr0 1 ?_
 apply aB
 iterate 2 refine v0 ?_
 refine op0 [(0,0)] [] [0,0] none (spec:=aBJ xs hs hlen 2 h) (hent:=zD) ?_
 repeat (first|refine aO ?_|refine aN ?_)
 refine fph [0] ?_
 rfl
end
section
open Go.Gh
variable {E:Env Tryz.prog} {A:E.α}
structure aIm (c:Prop):Prop where
 h:c:=by (first|exact True.intro|omega|(simp [P.size,List.length_map]<;>first|omega|(intro a _;rfl))|(simp [P.size];exact ⟨by omega,fun a _=>rfl⟩)|omega|(simp only [inI];omega)|(simp [P.size,bU,bG,bR,bB,cS,good,G.one,P.one,P.cells]<;>first|omega|assumption|simp_all))
theorem aOf:aJ Tryz.prog 232:=aJ.mk Tryz.func232 (by kernel_rfl) rfl
theorem aF2 (a b:P) (ha:a.one=true) (hb:b.one=true) (u v:Int) (l:List nB):Gh.bD E 232 [.p (.agg [.int .i64 u,.int .i64 v]),.ref 0 0] (aG [(0,.cells [.p (a),.p (b),.own 1 (l).length] 0),(1,.arr 84 9 ((l).map eE) false)]) A (fun y=>y = .ok (.p (.tuple [])) (aG [(0,.cells [.p (.int .i64 u),.p (.int .i64 v),.own 1 (l).length] 0),(1,.arr 84 9 ((l).map eE) false)]) A):=by
 refine spX 9 Tryz.func232 rfl ?_
 intro C hN hL
 simp only [Gh.num,List.map_cons,List.map_nil,Nat.reduceAdd]
 repeat apply aA
 apply aB
 refine n1 120 false (hc:=aIm.h {}) ?_
 apply aC
 refine cl [1,2] ?_
 repeat apply aA
 apply aB
 iterate 5 refine v0 ?_
 refine s1 (hc:=aIm.h {}) ?_
 apply aC
 try refine bP ?_
 refine cW ?_
 refine fh0 [0,1] ?_
 rfl
theorem aOg:aJ Tryz.prog 233:=aJ.mk Tryz.func233 (by kernel_rfl) rfl
theorem aIn (a b:P) (ha:a.one=true) (hb:b.one=true) (s:nB) (l:List nB) (hl:l.length≤100000):Gh.bD E 233 [.p (eE s),.ref 0 0] (aG [(0,.cells [.p (a),.p (b),.own 1 (l).length] 0),(1,.arr 84 9 ((l).map eE) false)]) A (fun y=>y = .ok (.p (.tuple [])) (aG [(0,.cells [.p (a),.p (b),.own 1 (l++[s]).length] 0),(1,.arr 84 9 ((l++[s]).map eE) false)]) A):=by
 refine spX 14 Tryz.func233 rfl ?_
 intro C hN hL
 simp only [Gh.num,List.map_cons,List.map_nil,Nat.reduceAdd]
 have hlm:(l.map eE).length=l.length:=List.length_map ..
 unfold eE
 repeat apply aA
 apply aB
 refine n1 120 false (hc:=aIm.h {}) ?_
 apply aC
 refine cl [1,2] ?_
 repeat apply aA
 refine rd ?_
 refine d0 0 ?_
 refine d0 1 ?_
 refine d0 2 ?_
 refine d0 3 ?_
 refine d0 4 ?_
 refine d0 5 ?_
 refine dn1 6 200 false (hc:=aIm.h {}) ?_
 refine dn1 7 210 false (hc:=aIm.h {}) ?_
 refine d0 8 ?_
 refine d0 9 ?_
 refine ds1 10 (hc:=aIm.h {}) ?_
 refine dz 11 [0,0,2,6,14,0,32,126,255,511,1023] ?_
 refine de 11 ?_
 try refine bP ?_
 refine cW ?_
 refine fh0 [0,1] ?_
 simp [eE]
end
section
open Go.Gh
variable {E:Env Tryz.prog} {A:E.α}
structure nJ (c:Prop):Prop where
 h:c:=by (first|exact True.intro|omega|(simp [P.size,List.length_map]<;>first|omega|(intro a _;rfl)|(intro a b _;rfl)|(intro a b c _;rfl))|(simp [P.size];exact ⟨by omega,fun a _=>rfl⟩)|omega|(simp only [inI];omega)|(simp [P.size,bU,bG,bR,bB,cS,good,G.one,P.one,P.cells]<;>first|omega|assumption|simp_all))
theorem aOh:aJ Tryz.prog 229:=aJ.mk Tryz.func229 (by kernel_rfl) rfl
theorem aIo (e1 e2 im u1 u2:P) (g1:e1.one=true) (g2:e2.one=true) (g3:im.one=true) (g4:u1.one=true) (g5:u2.one=true) (er:List (Int×Int)) (se:List Stg) (n u v a b:Int):Gh.bD E 229 [.p (.agg [.int .i64 n,.int .i64 u,.int .i64 v,.int .i64 a,.int .i64 b]),.ref 0 0] (aG [(0,.cells [.own 1 (er).length,.p (e1),.p (e2),.p (im),.p (u1),.p (u2),.own 2 (se).length] 0),(1,.arr 24 2 ((er).map pSp) false),(2,.arr 81 3 ((se).map fK) false)]) A (fun y=>y = .ok (.p (.tuple [])) (aG [(0,.cells [.own 1 (er).length,.p (.int .i64 a),.p (.int .i64 b),.p (.int .i64 n),.p (.int .i64 u),.p (.int .i64 v),.own 2 (se).length] 0),(1,.arr 24 2 ((er).map pSp) false),(2,.arr 81 3 ((se).map fK) false)]) A):=by
 refine spX 20 Tryz.func229 rfl ?_
 intro C hN hL
 simp only [Gh.num,List.map_cons,List.map_nil,Nat.reduceAdd]
 repeat apply aA
 apply aB
 refine n1 120 false (hc:=nJ.h {}) ?_
 apply aC
 refine cl [1,2] ?_
 repeat apply aA
 refine rd ?_
 refine da0 0 ?_
 refine da0 1 ?_
 refine da0 2 ?_
 refine da0 3 ?_
 refine d0 4 ?_
 refine da0 5 ?_
 refine d0 6 ?_
 refine da0 7 ?_
 refine d0 8 ?_
 refine da0 9 ?_
 refine da0 10 ?_
 refine ds1 11 (hc:=nJ.h {}) ?_
 refine da0 12 ?_
 refine da0 13 ?_
 refine ds1 14 (hc:=nJ.h {}) ?_
 refine da0 15 ?_
 refine da0 16 ?_
 refine da0 17 ?_
 refine ds1 18 (hc:=nJ.h {}) ?_
 refine dz 19 [0,0,0,0,8,0,32,0,128,25,537,1561,3707,7803,15995,32767,65535,131071,262143] ?_
 refine de 19 ?_
 try refine bP ?_
 refine cW ?_
 refine fh0 [0,1,2] ?_
 rfl
theorem aOi:aJ Tryz.prog 230:=aJ.mk Tryz.func230 (by kernel_rfl) rfl
theorem aIp (e1 e2 im u1 u2:P) (g1:e1.one=true) (g2:e2.one=true) (g3:im.one=true) (g4:u1.one=true) (g5:u2.one=true) (er:List (Int×Int)) (se:List Stg) (e:Int×Int) (hl:er.length≤100000):Gh.bD E 230 [.p (.agg [.int .i64 e.1,.int .i64 e.2]),.ref 0 0] (aG [(0,.cells [.own 1 (er).length,.p (e1),.p (e2),.p (im),.p (u1),.p (u2),.own 2 (se).length] 0),(1,.arr 24 2 ((er).map pSp) false),(2,.arr 81 3 ((se).map fK) false)]) A (fun y=>y = .ok (.p (.tuple [])) (aG [(0,.cells [.own 1 (er++[e]).length,.p (e1),.p (e2),.p (im),.p (u1),.p (u2),.own 2 (se).length] 0),(1,.arr 24 2 ((er++[e]).map pSp) false),(2,.arr 81 3 ((se).map fK) false)]) A):=by
 refine spX 17 Tryz.func230 rfl ?_
 intro C hN hL
 simp only [Gh.num,List.map_cons,List.map_nil,Nat.reduceAdd]
 have hlm:(er.map pSp).length=er.length:=List.length_map ..
 repeat apply aA
 apply aB
 refine n1 120 false (hc:=nJ.h {}) ?_
 apply aC
 refine cl [1,2] ?_
 repeat apply aA
 refine rd ?_
 refine da0 0 ?_
 refine da0 1 ?_
 refine da0 2 ?_
 refine da0 3 ?_
 refine da0 4 ?_
 refine d0 5 ?_
 refine da0 6 ?_
 refine d0 7 ?_
 refine dn1 8 220 false (hc:=nJ.h {}) ?_
 refine dn1 9 230 false (hc:=nJ.h {}) ?_
 refine da0 10 ?_
 refine da0 11 ?_
 refine da0 12 ?_
 refine ds1 13 (hc:=nJ.h {}) ?_
 refine dz 14 [0,0,2,6,14,30,0,64,192,510,1023,2047,4095,8191] ?_
 refine de 14 ?_
 try refine bP ?_
 refine cW ?_
 refine fh0 [0,1,2] ?_
 simp [pSp]
theorem aKE:aJ Tryz.prog 231:=aJ.mk Tryz.func231 (by kernel_rfl) rfl
theorem aES (e1 e2 im u1 u2:P) (g1:e1.one=true) (g2:e2.one=true) (g3:im.one=true) (g4:u1.one=true) (g5:u2.one=true) (er:List (Int×Int)) (se:List Stg) (s:Stg) (hl:se.length≤100000):Gh.bD E 231 [.p (fK s),.ref 0 0] (aG [(0,.cells [.own 1 (er).length,.p (e1),.p (e2),.p (im),.p (u1),.p (u2),.own 2 (se).length] 0),(1,.arr 24 2 ((er).map pSp) false),(2,.arr 81 3 ((se).map fK) false)]) A (fun y=>y = .ok (.p (.tuple [])) (aG [(0,.cells [.own 1 (er).length,.p (e1),.p (e2),.p (im),.p (u1),.p (u2),.own 2 (se++[s]).length] 0),(1,.arr 24 2 ((er).map pSp) false),(2,.arr 81 3 ((se++[s]).map fK) false)]) A):=by
 refine spX 14 Tryz.func231 rfl ?_
 intro C hN hL
 simp only [Gh.num,List.map_cons,List.map_nil,Nat.reduceAdd]
 have hlm:(se.map fK).length=se.length:=List.length_map ..
 unfold fK
 repeat apply aA
 apply aB
 refine n1 120 false (hc:=nJ.h {}) ?_
 apply aC
 refine cl [1,2] ?_
 repeat apply aA
 refine rd ?_
 refine da0 0 ?_
 refine da0 1 ?_
 refine da0 2 ?_
 refine da0 3 ?_
 refine d0 4 ?_
 refine d0 5 ?_
 refine dn1 6 200 false (hc:=nJ.h {}) ?_
 refine dn1 7 210 false (hc:=nJ.h {}) ?_
 refine da0 8 ?_
 refine da0 9 ?_
 refine ds1 10 (hc:=nJ.h {}) ?_
 refine dz 11 [0,0,2,6,14,0,32,126,255,511,1023] ?_
 refine de 11 ?_
 try refine bP ?_
 refine cW ?_
 refine fh0 [0,1,2] ?_
 simp [fK]
theorem aOj:aJ Tryz.prog 234:=aJ.mk Tryz.func234 (by kernel_rfl) rfl
theorem aF3 (pl ps ms:P) (g1:pl.one=true) (g2:ps.one=true) (g3:ms.one=true) (kn:List (Int×Int)) (rs:List (Int×Int×Int)) (a b d:Int):Gh.bD E 234 [.p (.agg [.int .i64 a,.int .i64 b,.int .i64 d]),.ref 0 0] (aG [(0,.cells [.p (pl),.p (ps),.own 1 (kn).length,.own 2 (rs).length,.p (ms)] 0),(1,.arr 126 2 ((kn).map pSp) false),(2,.arr 86 3 ((rs).map pRc) false)]) A (fun y=>y = .ok (.p (.tuple [])) (aG [(0,.cells [.p (.int .i64 a),.p (.int .i64 b),.own 1 (kn).length,.own 2 (rs).length,.p (.int .i64 d)] 0),(1,.arr 126 2 ((kn).map pSp) false),(2,.arr 86 3 ((rs).map pRc) false)]) A):=by
 refine spX 19 Tryz.func234 rfl ?_
 intro C hN hL
 simp only [Gh.num,List.map_cons,List.map_nil,Nat.reduceAdd]
 repeat apply aA
 apply aB
 refine n1 120 false (hc:=nJ.h {}) ?_
 apply aC
 refine cl [1,2] ?_
 repeat apply aA
 refine rd ?_
 refine da0 0 ?_
 refine da0 1 ?_
 refine da0 2 ?_
 refine da0 3 ?_
 refine d0 4 ?_
 refine da0 5 ?_
 refine d0 6 ?_
 refine da0 7 ?_
 refine d0 8 ?_
 refine da0 9 ?_
 refine da0 10 ?_
 refine ds1 11 (hc:=nJ.h {}) ?_
 refine da0 12 ?_
 refine da0 13 ?_
 refine ds1 14 (hc:=nJ.h {}) ?_
 refine da0 15 ?_
 refine da0 16 ?_
 refine ds1 17 (hc:=nJ.h {}) ?_
 refine dz 18 [0,0,0,0,8,0,32,0,128,25,537,1561,3707,7803,15995,32767,65535,131071] ?_
 refine de 18 ?_
 try refine bP ?_
 refine cW ?_
 refine fh0 [0,1,2] ?_
 rfl
theorem aOk:aJ Tryz.prog 235:=aJ.mk Tryz.func235 (by kernel_rfl) rfl
theorem aF4 (pl ps ms:P) (g1:pl.one=true) (g2:ps.one=true) (g3:ms.one=true) (kn:List (Int×Int)) (rs:List (Int×Int×Int)) (e:Int×Int) (hl:kn.length≤100000):Gh.bD E 235 [.p (.agg [.int .i64 e.1,.int .i64 e.2]),.ref 0 0] (aG [(0,.cells [.p (pl),.p (ps),.own 1 (kn).length,.own 2 (rs).length,.p (ms)] 0),(1,.arr 126 2 ((kn).map pSp) false),(2,.arr 86 3 ((rs).map pRc) false)]) A (fun y=>y = .ok (.p (.tuple [])) (aG [(0,.cells [.p (pl),.p (ps),.own 1 (kn++[e]).length,.own 2 (rs).length,.p (ms)] 0),(1,.arr 126 2 ((kn++[e]).map pSp) false),(2,.arr 86 3 ((rs).map pRc) false)]) A):=by
 refine spX 14 Tryz.func235 rfl ?_
 intro C hN hL
 simp only [Gh.num,List.map_cons,List.map_nil,Nat.reduceAdd]
 have hlm:(kn.map pSp).length=kn.length:=List.length_map ..
 repeat apply aA
 apply aB
 refine n1 120 false (hc:=nJ.h {}) ?_
 apply aC
 refine cl [1,2] ?_
 repeat apply aA
 refine rd ?_
 refine da0 0 ?_
 refine da0 1 ?_
 refine da0 2 ?_
 refine da0 3 ?_
 refine d0 4 ?_
 refine d0 5 ?_
 refine dn1 6 200 false (hc:=nJ.h {}) ?_
 refine dn1 7 210 false (hc:=nJ.h {}) ?_
 refine da0 8 ?_
 refine da0 9 ?_
 refine ds1 10 (hc:=nJ.h {}) ?_
 refine dz 11 [0,0,2,6,14,0,32,126,255,511,1023] ?_
 refine de 11 ?_
 try refine bP ?_
 refine cW ?_
 refine fh0 [0,1,2] ?_
 simp [pSp]
theorem aOl:aJ Tryz.prog 236:=aJ.mk Tryz.func236 (by kernel_rfl) rfl
theorem aIq (pl ps ms:P) (g1:pl.one=true) (g2:ps.one=true) (g3:ms.one=true) (kn:List (Int×Int)) (rs:List (Int×Int×Int)) (e:Int×Int×Int) (hl:rs.length≤100000):Gh.bD E 236 [.p (.agg [.int .i64 e.1,.int .i64 e.2.1,.int .i64 e.2.2]),.ref 0 0] (aG [(0,.cells [.p (pl),.p (ps),.own 1 (kn).length,.own 2 (rs).length,.p (ms)] 0),(1,.arr 126 2 ((kn).map pSp) false),(2,.arr 86 3 ((rs).map pRc) false)]) A (fun y=>y = .ok (.p (.tuple [])) (aG [(0,.cells [.p (pl),.p (ps),.own 1 (kn).length,.own 2 (rs++[e]).length,.p (ms)] 0),(1,.arr 126 2 ((kn).map pSp) false),(2,.arr 86 3 ((rs++[e]).map pRc) false)]) A):=by
 refine spX 14 Tryz.func236 rfl ?_
 intro C hN hL
 simp only [Gh.num,List.map_cons,List.map_nil,Nat.reduceAdd]
 have hlm:(rs.map pRc).length=rs.length:=List.length_map ..
 repeat apply aA
 apply aB
 refine n1 120 false (hc:=nJ.h {}) ?_
 apply aC
 refine cl [1,2] ?_
 repeat apply aA
 refine rd ?_
 refine da0 0 ?_
 refine da0 1 ?_
 refine da0 2 ?_
 refine da0 3 ?_
 refine d0 4 ?_
 refine d0 5 ?_
 refine dn1 6 200 false (hc:=nJ.h {}) ?_
 refine dn1 7 210 false (hc:=nJ.h {}) ?_
 refine da0 8 ?_
 refine da0 9 ?_
 refine ds1 10 (hc:=nJ.h {}) ?_
 refine dz 11 [0,0,2,6,14,0,32,126,255,511,1023] ?_
 refine de 11 ?_
 try refine bP ?_
 refine cW ?_
 refine fh0 [0,1,2] ?_
 simp [pRc]
end
section
open Go.Gh
variable {E:Env Tryz.prog} {A:E.α}
structure zE (c:Prop):Prop where
 h:c:=by (first|exact True.intro|omega|(simp only [inI];omega)|(simp [jP,cY,eW];done)|(simp only [inI];omega)|(simp [P.size,bU,bG,bR,bB,cS,good,G.one,P.one,P.cells]<;>first|omega|assumption|simp_all))
structure aIr (c:Prop):Prop where
 h:c:=by (first|exact True.intro|omega|(simp only [inI];omega)|(simp [P.size,bU,bG,bR,bB,cS,good,G.one,P.one,P.cells]<;>first|omega|assumption|simp_all))
structure tW (c:Prop):Prop where
 h:c:=by (first|exact True.intro|omega|(simp only [inI];omega)|(simp [jP,cY,eW,gG,zF];done)|(simp only [inI];omega)|(simp [P.size,bU,bG,bR,bB,cS,good,G.one,P.one,P.cells]<;>first|omega|assumption|simp_all))
theorem aPJ:Tryz.prog.underlying 9=some .string:=by kernel_rfl
theorem aLY (d:Nat) (a c:Str):geq Tryz.prog (d+1) 9 (.str a) (.str c)=some (decide (a=c)):=by
 unfold geq
 rw [aPJ]
theorem cY (a c:Str):geq Tryz.prog 6 9 (.str a) (.str c)=some (decide (a=c)):=aLY 5 a c
def kC:List (P×P):=[(.str [112,108,97,116,101],.fn (.func 113) [] []),(.str [115,116,97,114],.fn (.func 114) [] [])]
theorem aET:aJ Tryz.prog 58:=aJ.mk Tryz.func58 (by kernel_rfl) rfl
theorem tX  : Gh.bD E 58 [] (aG []) A (fun y=>y = .ok (.agg [.p (.fn (.func 112) [] []),.map 110,.p (.fn (.func 115) [] [])]) (aG [(110,.map kC)]) A):=by
 refine spX 4 Tryz.func58 rfl ?_
 intro C hN hL
 simp only [Gh.num,List.map_cons,List.map_nil,Nat.reduceAdd]
 repeat apply aA
 apply aB
 refine n1 100 false (hc:=zE.h {}) ?_
 apply aC
 refine cl [0] ?_
 repeat apply aA
 apply aB
 refine n1 110 false (hc:=zE.h {}) ?_
 iterate 2 refine s1 (hc:=zE.h {}) ?_
 iterate 2 refine v0 ?_
 refine s1 (hc:=zE.h {}) ?_
 apply aC
 repeat apply aA
 refine aL ?_
 repeat (first|refine aH ?_|refine aE ?_|refine aD ?_)
 refine aM ?_
 refine fh [110] ?_
 simp [eW,cY,kC]
def jL:List (P×P):=[(.str [99,104,97,105,110],.fn (.func 121) [] [.ptr [.fn (.func 118) [] []]]),(.str [107,110,111,119,115],.fn (.func 122) [] [.ptr [.fn (.func 118) [] []]]),(.str [108,111,97,110],.fn (.func 123) [] [.ptr [.fn (.func 118) [] []]])]
theorem aMm:aJ Tryz.prog 18:=aJ.mk Tryz.func18 (by kernel_rfl) rfl
theorem aBK (b:Plt) (hv:b.valid=true)  : bF Tryz.prog 18 [gC b] (.ok (.tuple [.str (txt (hQ b)),.int .i64 0])):=by
 refine bL Tryz.func18 (rfl:Tryz.f18.body=some _) rfl ?_
 intro E A C hN hL
 replace hN:C.N=9:=hN
 simp only [Gh.num,List.map_cons,List.map_nil,Nat.reduceAdd]
 unfold gC
 repeat apply aA
 apply aB
 refine n1 110 false (hc:=aIr.h {}) ?_
 iterate 2 refine v0 ?_
 apply aC
 refine cl [1] ?_
 repeat apply aA
 refine rd ?_
 refine d0 0 ?_
 refine dW 1 [(110,1500)] [] [] none (spec:=tX) (hent:=aET) ?_
 refine dW 2 [(0,1500)] [] [0,0] none (spec:=rF b hv kC) (hent:=aEA) ?_
 refine d0 3 ?_
 refine d0 4 ?_
 refine d0 5 ?_
 refine d0 6 ?_
 refine dz 7 [0,0,3,7,7,31,63] ?_
 refine de 7 ?_
 repeat apply aA
 refine aL ?_
 repeat (first|refine aH ?_|refine aE ?_|refine aD ?_)
 refine aM ?_
 refine fp2 ?_
 rfl
theorem aF5 (b:Plt) (hv:b.valid=false) (hl:b.st.length≤1048576):bF Tryz.prog 18 [gC b] (.ok (.tuple [.str [],.int .i64 1])):=by
 refine bL Tryz.func18 (rfl:Tryz.f18.body=some _) rfl ?_
 intro E A C hN hL
 replace hN:C.N=9:=hN
 simp only [Gh.num,List.map_cons,List.map_nil,Nat.reduceAdd]
 unfold gC
 repeat apply aA
 apply aB
 refine n1 110 false (hc:=aIr.h {}) ?_
 iterate 2 refine v0 ?_
 apply aC
 refine cl [1] ?_
 repeat apply aA
 refine rd ?_
 refine d0 0 ?_
 refine dW 1 [(110,1500)] [] [] none (spec:=tX) (hent:=aET) ?_
 refine dW 2 [(0,1500)] [] [0,0] none (spec:=xA b hv hl kC) (hent:=aEA) ?_
 refine d0 3 ?_
 refine d0 4 ?_
 refine d0 5 ?_
 refine d0 6 ?_
 refine dz 7 [0,0,3,7,7,31,63] ?_
 refine de 7 ?_
 repeat apply aA
 refine aL ?_
 repeat (first|refine aH ?_|refine aE ?_|refine aD ?_)
 refine aM ?_
 refine fp2 ?_
 rfl
theorem aEU:aJ Tryz.prog 63:=aJ.mk Tryz.func63 (by kernel_rfl) rfl
theorem tY  : Gh.bD E 63 [] (aG []) A (fun y=>y = .ok (.agg [.p (.fn (.func 120) [] []),.map 120,.p (.fn (.func 124) [] [])]) (aG [(120,.map jL)]) A):=by
 refine spX 8 Tryz.func63 rfl ?_
 intro C hN hL
 simp only [Gh.num,List.map_cons,List.map_nil,Nat.reduceAdd]
 repeat apply aA
 apply aB
 refine n1 100 false (hc:=zE.h {}) ?_
 apply aC
 refine cl [0] ?_
 repeat apply aA
 apply aB
 refine n1 110 false (hc:=zE.h {}) ?_
 refine s1 (hc:=zE.h {}) ?_
 apply aC
 refine cl [0,1] ?_
 repeat apply aA
 refine fz 110 1 [.k] ?_
 apply aB
 refine n1 120 false (hc:=zE.h {}) ?_
 refine v0 ?_
 first|(refine ocv 5 (.f [.n [.k]]) (k:=?_);refine ocv 5 .q (hc:=by simp [bB,G.one,P.one,jN]) (k:=?_))|(refine ocv 4 (.f [.n [.k]]) (k:=?_);refine ocv 4 .q (hc:=by simp [bB,G.one,P.one,jN]) (k:=?_))|(refine ocv 3 (.f [.n [.k]]) (k:=?_);refine ocv 3 .q (hc:=by simp [bB,G.one,P.one,jN]) (k:=?_))
 refine s1 (hc:=zE.h {}) ?_
 refine v0 ?_
 first|(refine ocv 5 (.f [.n [.k]]) (k:=?_);refine ocv 5 .q (hc:=by simp [bB,G.one,P.one,jN]) (k:=?_))|(refine ocv 4 (.f [.n [.k]]) (k:=?_);refine ocv 4 .q (hc:=by simp [bB,G.one,P.one,jN]) (k:=?_))|(refine ocv 3 (.f [.n [.k]]) (k:=?_);refine ocv 3 .q (hc:=by simp [bB,G.one,P.one,jN]) (k:=?_))
 refine s1 (hc:=zE.h {}) ?_
 refine v0 ?_
 first|(refine ocv 5 (.f [.n [.k]]) (k:=?_);refine ocv 5 .q (hc:=by simp [bB,G.one,P.one,jN]) (k:=?_))|(refine ocv 4 (.f [.n [.k]]) (k:=?_);refine ocv 4 .q (hc:=by simp [bB,G.one,P.one,jN]) (k:=?_))|(refine ocv 3 (.f [.n [.k]]) (k:=?_);refine ocv 3 .q (hc:=by simp [bB,G.one,P.one,jN]) (k:=?_))
 refine s1 (hc:=zE.h {}) ?_
 iterate 2 refine v0 ?_
 refine s1 (hc:=zE.h {}) ?_
 apply aC
 repeat apply aA
 refine aL ?_
 repeat (first|refine aH ?_|refine aE ?_|refine aD ?_)
 refine aM ?_
 refine fh [120] ?_
 simp [eW,cY,jL]
theorem aMn:aJ Tryz.prog 24:=aJ.mk Tryz.func24 (by kernel_rfl) rfl
theorem aBL (b:Chn) (hv:b.valid=true)  : bF Tryz.prog 24 [gD b] (.ok (.tuple [.str (txt (gQ b)),.int .i64 0])):=by
 refine bL Tryz.func24 (rfl:Tryz.f24.body=some _) rfl ?_
 intro E A C hN hL
 replace hN:C.N=9:=hN
 simp only [Gh.num,List.map_cons,List.map_nil,Nat.reduceAdd]
 unfold gD
 repeat apply aA
 apply aB
 refine n1 110 false (hc:=aIr.h {}) ?_
 iterate 2 refine v0 ?_
 apply aC
 refine cl [1] ?_
 repeat apply aA
 refine rd ?_
 refine d0 0 ?_
 refine dW 1 [(120,1500)] [] [] none (spec:=tY) (hent:=aEU) ?_
 refine dW 2 [(0,1500)] [] [0,0] none (spec:=rG b hv jL) (hent:=aEB) ?_
 refine d0 3 ?_
 refine d0 4 ?_
 refine d0 5 ?_
 refine d0 6 ?_
 refine dz 7 [0,0,3,7,7,31,63] ?_
 refine de 7 ?_
 repeat apply aA
 refine aL ?_
 repeat (first|refine aH ?_|refine aE ?_|refine aD ?_)
 refine aM ?_
 refine fp2 ?_
 rfl
theorem aF6 (b:Chn) (hv:b.valid=false) (hl:b.kn.length≤1048576) (hl2:b.rs.length≤1048576):bF Tryz.prog 24 [gD b] (.ok (.tuple [.str [],.int .i64 1])):=by
 refine bL Tryz.func24 (rfl:Tryz.f24.body=some _) rfl ?_
 intro E A C hN hL
 replace hN:C.N=9:=hN
 simp only [Gh.num,List.map_cons,List.map_nil,Nat.reduceAdd]
 unfold gD
 repeat apply aA
 apply aB
 refine n1 110 false (hc:=aIr.h {}) ?_
 iterate 2 refine v0 ?_
 apply aC
 refine cl [1] ?_
 repeat apply aA
 refine rd ?_
 refine d0 0 ?_
 refine dW 1 [(120,1500)] [] [] none (spec:=tY) (hent:=aEU) ?_
 refine dW 2 [(0,1500)] [] [0,0] none (spec:=xB b hv hl hl2 jL) (hent:=aEB) ?_
 refine d0 3 ?_
 refine d0 4 ?_
 refine d0 5 ?_
 refine d0 6 ?_
 refine dz 7 [0,0,3,7,7,31,63] ?_
 refine de 7 ?_
 repeat apply aA
 refine aL ?_
 repeat (first|refine aH ?_|refine aE ?_|refine aD ?_)
 refine aM ?_
 refine fp2 ?_
 rfl
def zF:Nat→List (P×P)
 |0=>[]
 |1=>[(.str [112,108,97,105,110],.fn (.func 103) [] [.ptr [.int .i64 0]])]
 |_=>[(.str [112,108,97,105,110],.fn (.func 103) [] [.ptr [.int .i64 0]]),(.str [114,101,118,101,114,115,101,100],.fn (.func 103) [] [.ptr [.int .i64 1]])]
def gG (k:Nat):List (P×P):=[(.str [109,101,97,115,117,114,101],.fn (.func 98) [] []),(.str [116,117,114,110],.fn (.func 101) [] [])]++zF k
theorem aEV:aJ Tryz.prog 50:=aJ.mk Tryz.func50 (by kernel_rfl) rfl
theorem oW  : Gh.bD E 50 [] (aG []) A (fun y=>y = .ok (.agg [.p (.fn (.func 95) [] []),.map 140,.p (.fn (.func 102) [] [])]) (aG [(140,.map (gG 2))]) A):=by
 refine spX 18 Tryz.func50 rfl ?_
 intro C hN hL
 simp only [Gh.num,List.map_cons,List.map_nil,Nat.reduceAdd]
 repeat apply aA
 apply aB
 refine n1 100 false (hc:=tW.h {}) ?_
 apply aC
 refine cl [0] ?_
 repeat apply aA
 apply aB
 refine n1 140 false (hc:=tW.h {}) ?_
 iterate 2 refine s1 (hc:=tW.h {}) ?_
 iterate 2 refine v0 ?_
 refine n1 110 false (hc:=tW.h {}) ?_
 refine s1 (hc:=tW.h {}) ?_
 apply aC
 refine cl [0,1] ?_
 repeat apply aA
 apply aB
 refine pc0 (spec:=aFD) (hent:=aJF) ?_
 refine v0 ?_
 apply aC
 refine cl [0,1,7,8] ?_
 repeat apply aA
 refine aP ?_
 repeat apply aA
 refine cJ (fun mz σ=>∃k:Nat,(k≤2)∧mz=2 - k∧σ=(sg [(0,.ref 100 0),(1,.ref 110 0),(7,.p (.agg [.str [112,108,97,105,110],.str [114,101,118,101,114,115,101,100]])),(8,.p (.int .i64 (k:Nat)))] [(100,.cells [.p .nilfn,.p .nilmap,.p .nilfn] 0),(110,.cells [.p (.fn (.func 95) [] []),.map 140,.p (.fn (.func 102) [] [])] 0),(140,.map (gG k))] A []:Sg E)) ?_ (fun mz σ hI=>?_)
 ·refine gA [0,1,7,8] ?_
  exact ⟨_,0,by omega,rfl,sgE (by simp) (by simp [eW,cY,gG,zF])⟩
 obtain ⟨k,hk,hnn,rfl⟩:=hI
 repeat apply aA
 apply aB
 refine v0 ?_
 apply aC
 repeat apply aA
 refine cB (k1:=fun hb1=>?_) (k0:=fun hb1=>?_)
 ·replace hb1:=hB.h {} hb1
  repeat apply aA
  refine aQ ?_
  refine cl [0,1,7,8] ?_
  repeat apply aA
  refine aP ?_
  repeat apply aA
  obtain rfl|rfl:k=0∨k=1:=by omega
  ·repeat apply aA
   apply aB
   refine v0 ?_
   refine v1 (hc:=tW.h {}) ?_
   refine n1 120 false (hc:=tW.h {}) ?_
   refine s1 (hc:=tW.h {}) ?_
   refine v0 ?_
   apply aC
   refine cl [0,1,2,3,7,8] ?_
   repeat apply aA
   refine fz 120 1 [.k] ?_
   apply aB
   iterate 4 refine v0 ?_
   refine ocv 15 (.f [.n [.k]]) (k:=?_)
   refine ocv 15 .q (hc:=by simp [bB,G.one,P.one,jN]) (k:=?_)
   refine s1 (hc:=tW.h {}) ?_
   apply aC
   refine cl [0,1,7,8] ?_
   repeat apply aA
   apply aB
   refine v1 (hc:=tW.h {}) ?_
   refine v0 ?_
   apply aC
   refine dN [0,1,7,8] (h:=?_) (hV:=?_) (n':=mz - 1)
   ·omega
   first
   |exact ⟨0+1,by omega,by omega,sgE rfl (by simp [eW,cY,gG,zF])⟩
   |exact ⟨1+1,by omega,by omega,sgE rfl (by simp [eW,cY,gG,zF])⟩
  repeat apply aA
  apply aB
  refine v0 ?_
  refine v1 (hc:=tW.h {}) ?_
  refine n1 120 false (hc:=tW.h {}) ?_
  refine s1 (hc:=tW.h {}) ?_
  refine v0 ?_
  apply aC
  refine cl [0,1,2,3,7,8] ?_
  repeat apply aA
  refine fz 120 1 [.k] ?_
  apply aB
  iterate 4 refine v0 ?_
  refine ocv 15 (.f [.n [.k]]) (k:=?_)
  refine ocv 15 .q (hc:=by simp [bB,G.one,P.one,jN]) (k:=?_)
  refine s1 (hc:=tW.h {}) ?_
  apply aC
  refine cl [0,1,7,8] ?_
  repeat apply aA
  apply aB
  refine v1 (hc:=tW.h {}) ?_
  refine v0 ?_
  apply aC
  refine dN [0,1,7,8] (h:=?_) (hV:=?_) (n':=mz - 1)
  ·omega
  first
  |exact ⟨0+1,by omega,by omega,sgE rfl (by simp [eW,cY,gG,zF])⟩
  |exact ⟨1+1,by omega,by omega,sgE rfl (by simp [eW,cY,gG,zF])⟩
 replace hb1:=hB.h {} hb1
 repeat apply aA
 refine bY ?_
 repeat (first|refine bI ?_|refine aY ?_|refine bC ?_|refine bJ rfl ?_)
 refine cl [0,1] ?_
 repeat apply aA
 obtain rfl:k=2:=by omega
 apply aB
 refine v0 ?_
 refine s1 (hc:=tW.h {}) ?_
 apply aC
 repeat apply aA
 refine aL ?_
 repeat (first|refine aH ?_|refine aE ?_|refine aD ?_)
 refine aM ?_
 refine fh [140] ?_
 rfl
theorem aMo:aJ Tryz.prog 14:=aJ.mk Tryz.func14 (by kernel_rfl) rfl
theorem aBM (b:Msr) (hv:b.valid=true)  : bF Tryz.prog 14 [gE b] (.ok (.tuple [.str (txt (gL b)),.int .i64 0])):=by
 refine bL Tryz.func14 (rfl:Tryz.f14.body=some _) rfl ?_
 intro E A C hN hL
 replace hN:C.N=9:=hN
 simp only [Gh.num,List.map_cons,List.map_nil,Nat.reduceAdd]
 unfold gE
 repeat apply aA
 apply aB
 refine n1 110 false (hc:=aIr.h {}) ?_
 iterate 2 refine v0 ?_
 apply aC
 refine cl [1] ?_
 repeat apply aA
 refine rd ?_
 refine d0 0 ?_
 refine dW 1 [(140,1500)] [] [] none (spec:=oW) (hent:=aEV) ?_
 refine dW 2 [(0,1500)] [] [0,0] none (spec:=rH b hv (gG 2)) (hent:=aEC) ?_
 refine d0 3 ?_
 refine d0 4 ?_
 refine d0 5 ?_
 refine d0 6 ?_
 refine dz 7 [0,0,3,7,7,31,63] ?_
 refine de 7 ?_
 repeat apply aA
 refine aL ?_
 repeat (first|refine aH ?_|refine aE ?_|refine aD ?_)
 refine aM ?_
 refine fp2 ?_
 rfl
theorem aF7 (b:Msr) (hv:b.valid=false) (hl:b.er.length≤1048576) (hl2:b.se.length≤1048576):bF Tryz.prog 14 [gE b] (.ok (.tuple [.str [],.int .i64 1])):=by
 refine bL Tryz.func14 (rfl:Tryz.f14.body=some _) rfl ?_
 intro E A C hN hL
 replace hN:C.N=9:=hN
 simp only [Gh.num,List.map_cons,List.map_nil,Nat.reduceAdd]
 unfold gE
 repeat apply aA
 apply aB
 refine n1 110 false (hc:=aIr.h {}) ?_
 iterate 2 refine v0 ?_
 apply aC
 refine cl [1] ?_
 repeat apply aA
 refine rd ?_
 refine d0 0 ?_
 refine dW 1 [(140,1500)] [] [] none (spec:=oW) (hent:=aEV) ?_
 refine dW 2 [(0,1500)] [] [0,0] none (spec:=xC b hv hl hl2 (gG 2)) (hent:=aEC) ?_
 refine d0 3 ?_
 refine d0 4 ?_
 refine d0 5 ?_
 refine d0 6 ?_
 refine dz 7 [0,0,3,7,7,31,63] ?_
 refine de 7 ?_
 repeat apply aA
 refine aL ?_
 repeat (first|refine aH ?_|refine aE ?_|refine aD ?_)
 refine aM ?_
 refine fp2 ?_
 rfl
end
section
open Go.Gh
structure eM1 {α:Type} (a b:α):Prop where
 h:a=b:=by (simp only [aAh,oX,wZ,aAi,aAj,rU,rV,kG,rW,rX,rY,rZ,sA,sB,sC,sD,sE,sF,sG,sH,sI,sJ,sK,sL,sM,sN,sO,sP,sQ,sR,sS,sT,sU,lK,lL,lM,lN,lO,lP,lQ,lR,lS,lT,lU,lV,lW,lX,lY,lZ,mA,mB,mC,mD,mE,mF,mG,mH,mJ,mL,mM,mN,mO,mQ,mR,mS,mT,mU,mV,mW,mX]<;>rfl)
variable {E:Env Tryz.prog} {C:Cx E} {r:Option Nat} {ops:Array Oper} {Q:GE→Sg E→Prop} {rest lst:List Oper} {l l':List (Nat×G)} {m:List (Nat×Ob)} {A:E.α} {df:List GD}
variable {t:Nat} {op:Op} {ty:TypeId} {pos:String} {af:Array Edge} {c:Prop} {g:G} {ob:Ob} {i j:Nat}
variable {lo:Nat} {σ0:Sg E} {ids ids':List (List Nat×List Nat)} {I:List Nat}
theorem aKF {mt kt vt:TypeId} {x k0:Operand} {ok:Bool} {iid:Nat} {kp:P} {es:List (P×P)} {b:Bool} {ii z:TI} {o:Oper} (ho:o.op = .lookup mt x k0 ok) (hw:dO ops (bA l) o=some true) (hti:ti Tryz.prog mt=some ii) (hd:ii.desc = .map kt vt) (hz:ti Tryz.prog vt=some z)
  (hm:gev (bA l) x = .map iid) (hk:gev (bA l) k0 = .p kp) (hh:aG m iid = .map es) (hv:eN (eX z) (cP (geq Tryz.prog 6 kt) kp es)=some (b,g)) (hkk:jP (geq Tryz.prog 6 kt) kp es) (hd0:aG m 99999 = .none) (ht:∀t,o.dst=some t→t<C.N) :
  Eff C r ops o (sg l m A df) [99999,iid] (if ok=true then mkTuple [g,.p (.bool b)] else g) []:=
 aCU (mu:=false) (d:=99999) (I:=[iid]) (c:=jP (geq Tryz.prog 6 kt) kp es) (out:=⟨if ok=true then mkTuple [g,.p (.bool b)] else g,none⟩) hw (by simp only [ho,cZ,hti,hd,hz,iO,hm,hk,rhp,List.mem_singleton,if_true,hh,hv]) hkk hd0 (by have:=C.limOk;omega) (fun p e=>by cases e) ht
theorem dl (n:Nat) {mt kt vt:TypeId} {x k0:Operand} {ok:Bool} {iid:Nat} {kp:P} {es:List (P×P)} {b:Bool} {ii z:TI} {g':G} (k:eT C r ops (cE C Q) lo σ0 ids' (sg ((t,g')::l) m A df)) (hn:ids.length=n:=by rfl) (ho:ops[lo+n]? = some ⟨some t,.lookup mt x k0 ok,ty,pos,af,none⟩:=by rfl) (hti:ti Tryz.prog mt=some ii:=by exact eM1.h {}) (hd:ii.desc = .map kt vt:=by rfl) (hz:ti Tryz.prog vt=some z:=by exact eM1.h {}) (hm:gev (bA l) x = .map iid:=by (simp only [gev,aT,Nat.reduceEqDiff,reduceIte]<;>rfl)) (hk:gev (bA l) k0 = .p kp:=by (simp only [gev,aT,Nat.reduceEqDiff,reduceIte]<;>rfl)) (hh:aG m iid = .map es:=by (simp only [aF,aI,Nat.reduceEqDiff,reduceIte]<;>rfl)) (hv:eN (eX z) (cP (geq Tryz.prog 6 kt) kp es)=some (b,g)) (hkk:jP (geq Tryz.prog 6 kt) kp es) (hd0:aG m 99999 = .none:=by (simp only [aF,aI,Nat.reduceEqDiff,reduceIte])) (ht:t<C.N:=by omega) (hg':(if ok=true then mkTuple [g,.p (.bool b)] else g)=g':=by rfl) (hids:ids++[([99999,iid],[])]=ids':=by (simp only [List.cons_append,List.nil_append]<;>rfl)):eT C r ops (cE C Q) lo σ0 ids (sg l m A df):=by
 subst hg'
 exact eT.step (pi:=[]) hn ho (aKF (C:=C) rfl (bN rfl) hti hd hz hm hk hh hv hkk hd0 (fun t' e=>by cases e;exact ht)) rfl (by rw [hids];exact k)
end
section
open Go.Gh
variable {E:Env Tryz.prog} {A:E.α}
structure tZ (c:Prop):Prop where
 h:c:=by (first|exact True.intro|omega|(simp only [inI];omega)|(simp [P.size,bU,bG,bR,bB,cS,good,G.one,P.one,P.cells]<;>first|omega|assumption|simp_all))
theorem kQ:∀(s:Str),(bT s).length≤s.length
 |[]=>Nat.le_refl _
 |b::l=>by
  have ih:=kQ l
  rw [bT]
  split
  ·simp;omega
  cases e:bT l with
  |nil=>simp
  |cons p ps=>rw [e] at ih;simp at ih ⊢;omega
def aOm:TI:=⟨.func #[164] #[191] false,1,8,[.p .nilfn],false⟩
theorem aMp:eN (eX aOm) (cP (geq Tryz.prog 6 9) (.str [112,108,97,116,101]) kC)=some (true,.p (.fn (.func 113) [] [])):=by simp [kC,cP,cY];rfl
theorem aMq:eN (eX aOm) (cP (geq Tryz.prog 6 9) (.str [115,116,97,114]) kC)=some (true,.p (.fn (.func 114) [] [])):=by simp [kC,cP,cY];rfl
theorem aPd {w:Str} (h1:w≠[112,108,97,116,101]) (h2:w≠[115,116,97,114]):eN (eX aOm) (cP (geq Tryz.prog 6 9) (.str w) kC)=some (false,.p .nilfn):=by simp [kC,cP,cY,h1,h2];rfl
theorem aEW (w:Str):jP (geq Tryz.prog 6 9) (.str w) kC:=by
 simp only [jP,kC,cY,Option.isSome_some,true_and,Option.some.injEq,decide_eq_true_eq]
 intro x hx
 simp only [List.mem_cons,List.not_mem_nil,or_false] at hx
 rcases hx with rfl|rfl<;>simp [cY]<;>exact fun h=>h.symm
def rdP (s:Str):P:=match pI s with
 |some p=>.tuple [gC p,.int .i64 0]
 |none=>.tuple [gC Plt.z,.int .i64 8]
theorem aMr {s:Str} (h:dY hZ Plt.z s=none):rdP s = .tuple [gC Plt.z,.int .i64 8]:=by unfold rdP pI;rw [h]
theorem aMs {s:Str} {p:Plt} (h:dY hZ Plt.z s=some p) (h2:p.valid=false∨txt (hQ p)≠s):rdP s = .tuple [gC Plt.z,.int .i64 8]:=by
 unfold rdP pI
 rw [h]
 rcases h2 with h2|h2<;>simp [h2]
theorem aPe {s:Str} {p:Plt} (h:dY hZ Plt.z s=some p) (h1:p.valid=true) (h2:txt (hQ p)=s):rdP s = .tuple [gC p,.int .i64 0]:=by
 unfold rdP pI
 rw [h]
 simp [h1,h2]
theorem fY {α:Type} {step:α→List Str→Option α} {z:α} {s:Str} (hs:Lib.hasSuffix s [10]=true):dY step z s=run step (bT s) z:=if_pos hs
theorem aDA {α:Type} {step:α→List Str→Option α} {z:α} {s:Str} (hs:Lib.hasSuffix s [10]=false):dY step z s=none:=if_neg (by rw [hs];exact Bool.false_ne_true)
theorem aOn:iP Tryz.prog 193 "zoneworks/book.put" = some 232:=by kernel_rfl
theorem aOo:iP Tryz.prog 195 "zoneworks/book.put" = some 233:=by kernel_rfl
theorem aIs (z:Plt) (w:Str) (r:List Str):(w=[112,108,97,116,101]∧∃u v,dD r=some (u,v))∨(w=[112,108,97,116,101]∧dD r=none)∨(w=[115,116,97,114]∧∃x,vD r=some x)∨(w=[115,116,97,114]∧vD r=none)∨(w≠[112,108,97,116,101]∧w≠[115,116,97,114]):=by
 by_cases h1:w=[112,108,97,116,101]
 ·cases e:dD r with
  |none=>exact .inr (.inl ⟨h1,rfl⟩)
  |some x=>exact .inl ⟨h1,x.1,x.2,rfl⟩
 by_cases h2:w=[115,116,97,114]
 ·cases e:vD r with
  |none=>exact .inr (.inr (.inr (.inl ⟨h2,rfl⟩)))
  |some x=>exact .inr (.inr (.inl ⟨h2,x,rfl⟩))
 exact .inr (.inr (.inr (.inr ⟨h1,h2⟩)))
theorem aDB {s:Str} {k:Nat} {x:List Y0} (h:(pls s)[k]? = some x):∃ln,(bT s)[k]? = some ln∧x=[Y0.o [bW (hU ln)]]:=by
 rw [pls,List.getElem?_map] at h
 cases e:(bT s)[k]? with
 |none=>rw [e] at h;cases h
 |some ln=>rw [e] at h;cases h;exact ⟨ln,rfl,rfl⟩
theorem aKG:aJ Tryz.prog 59:=aJ.mk Tryz.func59 (by kernel_rfl) rfl
theorem aF8 (s:Str) (h:s.length≤4096) (hs:Lib.hasSuffix s [10]=true):Gh.bD E 59 [.p (.str s),.agg [.p (.fn (.func 112) [] []),.map 0,.p (.fn (.func 115) [] [])]] (aG [(0,.map kC)]) A (fun y=>y = .ok (.p (rdP s)) (aG [(0,.map kC)]) A):=by
 refine hE Tryz.func59 (rfl:Tryz.f59.body=some _) (Nat.le_of_ble_eq_true rfl) (fun id h=>?_) (fun j id h=>?_) ?_
 ·exact kA h
 ·exact kB h
 intro C hN hL
 replace hN:C.N=48:=hN
 simp only [Gh.num,List.map_cons,List.map_nil,Nat.reduceAdd]
 repeat apply aV
 refine bK ?_
 apply aB
 refine n1 130 false (hc:=tZ.h {}) ?_
 refine n1 140 false (hc:=tZ.h {}) ?_
 refine n1 150 false (hc:=tZ.h {}) ?_
 apply aC
 refine xcl [0,3,4,5] ?_
 repeat apply aV
 refine bK ?_
 apply aB
 refine v0 ?_
 refine df0 ?_
 apply aC
 refine xcl [0,3,4,5] ?_
 repeat apply aV
 refine bK ?_
 refine ad 140 2 3000 84 9 false ?_
 apply aB
 iterate 3 refine v0 ?_
 refine rb 14 true (h:=by (first|with_reducible rfl|exact decide_eq_true (by omega)|rfl|decide)) ?_
 refine pc0 (spec:=bH _) (hent:=bX) ?_
 apply aC
 refine xcl [0,3,4,5] ?_
 repeat apply aV
 refine bK ?_
 apply aB
 refine v0 ?_
 refine oc0 [] [] [0] none (spec:=jG s) (hent:=yQ) ?_
 apply aC
 refine xcl [0,3,4,5,17] ?_
 repeat apply aV
 refine iU ?_
 repeat apply aV
 refine rfY 10000 99001 [18] (fun k (z:Plt) A1=>run hZ ((bT s).take k) Plt.z=some z∧z.st.length≤k∧A1=A) (fun z=>[(130,.cells [.p (.fn (.func 112) [] []),.map 0,.p (.fn (.func 115) [] [])] 0),(140,.cells [.p (.int .i64 z.sc.1),.p (.int .i64 z.sc.2),.own 3000 z.st.length] 0),(150,.cells [.p (.int .i64 0)] 0),(0,.map kC),(3000,.arr 84 9 (z.st.map eE) false)]) (fun _ (_:Plt) _=>False) (fun _ _=>[]) (fun p (_:Plt) A1=>p = .iface 218 (.agg [.int .i64 8])∧dY hZ Plt.z s=none∧A1=A) (fun _ z=>[(130,.cells [.p (.fn (.func 112) [] []),.map 0,.p (.fn (.func 115) [] [])] 0),(140,.cells [.p (.int .i64 z.sc.1),.p (.int .i64 z.sc.2),.own 3000 z.st.length] 0),(150,.cells [.p (.int .i64 0)] 0),(0,.map kC),(3000,.arr 84 9 (z.st.map eE) false)]) [] [.k] (it:=aDp s (by omega) hs) (hent:=yR) (xs:=pls s) (tail:=none) (pan:=true) (hlen:=fun x hx=>by obtain ⟨w,_,rfl⟩:=List.mem_map.1 hx;rfl) (hshp:=fun x hx=>by obtain ⟨w,_,rfl⟩:=List.mem_map.1 hx;exact .inr ⟨_,rfl⟩) (h0:=?_) (round:=fun k z A1 x hI hx lp bs C1 hN1 hL1=>?_) (hK:=fun e z A1 hK=>?_) (hP:=fun p z A1 hP=>?_) (hT:=fun p z A1 ht hT=>?_) (hI:=fun z A1 ht hI=>?_)
 ·exact ⟨Plt.z,⟨rfl,Nat.zero_le _,rfl⟩,rfl⟩
 ·obtain ⟨hz,hzl,rfl⟩:=hI
  obtain ⟨ln,hln,rfl⟩:=aDB hx
  have hll:ln.length≤4096:=by have:=oP s ln (List.mem_of_getElem? hln);omega
  have hkl:k<(bT s).length:=(List.getElem?_eq_some_iff.1 hln).1
  have hln2:=kQ s
  replace hN1:C1.N=48:=hN1.trans hN
  refine (?_:gwp C1 (some lp) _ _ (sg ((18,.ref 95000 0)::_) [(95000,.cells [.p (bW (hU ln))] 0),(130,.cells [.p (.fn (.func 112) [] []),.map 0,.p (.fn (.func 115) [] [])] 0),(140,.cells [.p (.int .i64 z.sc.1),.p (.int .i64 z.sc.2),.own 3000 z.st.length] 0),(150,.cells [.p (.int .i64 0)] 0),(0,.map kC),(3000,.arr 84 9 (z.st.map eE) false)] A1 []))
  repeat apply aA
  apply aB
  refine v0 ?_
  apply aC
  refine ⟨rfl,fun bs2 C2 hN2 hL2 hr2=>?_⟩
  replace hN2:C2.N=48:=hN2.trans hN
  refine (?_:gwp C2 (some lp) _ _ (sg _ _ _ []))
  repeat apply aA
  refine aP ?_
  repeat apply aA
  obtain ⟨w,r,hwr⟩:=aDr ln
  have hsr:cG r:=fun x hx=>vX (ln:=ln) (by omega) x (by rw [hwr];exact List.mem_cons_of_mem _ hx)
  rw [hwr]
  rcases aIs z w r with ⟨rfl,u,v,hsp⟩|⟨rfl,hsp⟩|⟨rfl,x,hsp⟩|⟨rfl,hsp⟩|⟨hw1,hw2⟩
  ·have hstep:run hZ ((bT s).take (k+1)) Plt.z=some (({ z with sc:=(u,v) }:Plt)):=by rw [iL hz hln,hwr];simp [hZ,hsp]
   repeat apply aA
   refine rd ?_
   refine d0 0 ?_
   refine d0 1 ?_
   refine d0 2 ?_
   refine dW 3 [(0,95000)] [] [0] none (spec:=cO [112,108,97,116,101] r) (hent:=dL) ?_
   refine dl 4 (hv:=aMp) (hkk:=aEW _) ?_
   refine d0 5 ?_
   refine d0 6 ?_
   refine d0 7 ?_
   refine d0 8 ?_
   refine d0 9 ?_
   refine dz 10 [0,1,0,4,15,31,63,63,127,511] ?_
   refine de 10 ?_
   refine cl [0,3,4,5,6,7,8] ?_
   repeat apply aA
   apply aB
   refine v0 ?_
   refine pc0 (spec:=bH _) (hent:=bX) ?_
   apply aC
   refine cl [0,3,4,5,6,7] ?_
   repeat apply aA
   apply aB
   iterate 2 refine v0 ?_
   refine oc0 [(0,95000)] [] [0] none (spec:=aFZ r u v hsr hsp) (hent:=aKm) ?_
   refine oc0 [(0,140),(1,3000)] [] [0,0] none (spec:=aF2 (.int .i64 z.sc.1) (.int .i64 z.sc.2) rfl rfl u v z.st) (hent:=aOf) (hg:=by (simp only [cI,gev,aT,Nat.reduceEqDiff,reduceIte,aOn]<;>rfl)) ?_
   apply aC
   refine ⟨_,({ z with sc:=(u,v) }:Plt),lc [130,140,150,0,3000],rfl,?_,?_,rfl⟩
   ·exact hstep
   simp only [List.length_append,List.length_cons,List.length_nil];omega
  ·have hnone:dY hZ Plt.z s=none:=by rw [fY hs];exact fS hz hln (by rw [hwr];simp [hZ,hsp])
   repeat apply aA
   refine rd ?_
   refine d0 0 ?_
   refine d0 1 ?_
   refine d0 2 ?_
   refine dW 3 [(0,95000)] [] [0] none (spec:=cO [112,108,97,116,101] r) (hent:=dL) ?_
   refine dl 4 (hv:=aMp) (hkk:=aEW _) ?_
   refine d0 5 ?_
   refine d0 6 ?_
   refine d0 7 ?_
   refine d0 8 ?_
   refine d0 9 ?_
   refine dz 10 [0,1,0,4,15,31,63,63,127,511] ?_
   refine de 10 ?_
   refine cl [0,3,4,5,6,7,8] ?_
   repeat apply aA
   apply aB
   refine v0 ?_
   refine pc0 (spec:=bH _) (hent:=bX) ?_
   apply aC
   refine cl [0,3,4,5,6,7] ?_
   repeat apply aA
   apply aB
   iterate 2 refine v0 ?_
   refine op0 [(0,95000)] [] [0] none (spec:=aF0 r hsr hsp) (hent:=aKm) ?_
   repeat (first|refine aO ?_|refine aN ?_|refine aW ?_)
   exact ⟨rfl,z,aAk [130,140,150,0,3000],rfl,hnone,rfl⟩
  ·have hstep:run hZ ((bT s).take (k+1)) Plt.z=some (({ z with st:=z.st++[x] }:Plt)):=by rw [iL hz hln,hwr];simp [hZ,hsp]
   repeat apply aA
   refine rd ?_
   refine d0 0 ?_
   refine d0 1 ?_
   refine d0 2 ?_
   refine dW 3 [(0,95000)] [] [0] none (spec:=cO [115,116,97,114] r) (hent:=dL) ?_
   refine dl 4 (hv:=aMq) (hkk:=aEW _) ?_
   refine d0 5 ?_
   refine d0 6 ?_
   refine d0 7 ?_
   refine d0 8 ?_
   refine d0 9 ?_
   refine dz 10 [0,1,0,4,15,31,63,63,127,511] ?_
   refine de 10 ?_
   refine cl [0,3,4,5,6,7,8] ?_
   repeat apply aA
   apply aB
   refine v0 ?_
   refine pc0 (spec:=bH _) (hent:=bX) ?_
   apply aC
   refine cl [0,3,4,5,6,7] ?_
   repeat apply aA
   apply aB
   iterate 2 refine v0 ?_
   refine oc0 [(0,95000)] [] [0] none (spec:=aKx r x hsr hsp) (hent:=aKt) ?_
   refine oc0 [(0,140),(1,3000)] [] [0,0] none (spec:=aIn (.int .i64 z.sc.1) (.int .i64 z.sc.2) rfl rfl x z.st (by omega)) (hent:=aOg) (hg:=by (simp only [cI,gev,aT,Nat.reduceEqDiff,reduceIte,aOo]<;>rfl)) ?_
   apply aC
   refine ⟨_,({ z with st:=z.st++[x] }:Plt),lc [130,140,150,0,3000],rfl,?_,?_,rfl⟩
   ·exact hstep
   simp only [List.length_append,List.length_cons,List.length_nil];omega
  ·have hnone:dY hZ Plt.z s=none:=by rw [fY hs];exact fS hz hln (by rw [hwr];simp [hZ,hsp])
   repeat apply aA
   refine rd ?_
   refine d0 0 ?_
   refine d0 1 ?_
   refine d0 2 ?_
   refine dW 3 [(0,95000)] [] [0] none (spec:=cO [115,116,97,114] r) (hent:=dL) ?_
   refine dl 4 (hv:=aMq) (hkk:=aEW _) ?_
   refine d0 5 ?_
   refine d0 6 ?_
   refine d0 7 ?_
   refine d0 8 ?_
   refine d0 9 ?_
   refine dz 10 [0,1,0,4,15,31,63,63,127,511] ?_
   refine de 10 ?_
   refine cl [0,3,4,5,6,7,8] ?_
   repeat apply aA
   apply aB
   refine v0 ?_
   refine pc0 (spec:=bH _) (hent:=bX) ?_
   apply aC
   refine cl [0,3,4,5,6,7] ?_
   repeat apply aA
   apply aB
   iterate 2 refine v0 ?_
   refine op0 [(0,95000)] [] [0] none (spec:=aKy r hsr hsp) (hent:=aKt) ?_
   repeat (first|refine aO ?_|refine aN ?_|refine aW ?_)
   exact ⟨rfl,z,aAk [130,140,150,0,3000],rfl,hnone,rfl⟩
  have hnone:dY hZ Plt.z s=none:=by rw [fY hs];exact fS hz hln (by rw [hwr];simp [hZ,hw1,hw2])
  repeat apply aA
  refine rd ?_
  refine d0 0 ?_
  refine d0 1 ?_
  refine d0 2 ?_
  refine dW 3 [(0,95000)] [] [0] none (spec:=cO w r) (hent:=dL) ?_
  refine dl 4 (hv:=aPd hw1 hw2) (hkk:=aEW _) ?_
  refine d0 5 ?_
  refine d0 6 ?_
  refine d0 7 ?_
  refine d0 8 ?_
  refine d0 9 ?_
  refine dz 10 [0,1,0,4,15,31,63,63,127,511] ?_
  refine de 10 ?_
  refine cl [0,3,4,5,6,7,8] ?_
  repeat apply aA
  apply aB
  refine v0 ?_
  refine pp0 (spec:=cX _) (hent:=bX) ?_
  repeat (first|refine aO ?_|refine aN ?_|refine aW ?_)
  exact ⟨rfl,z,aAk [130,140,150,0,3000],rfl,hnone,rfl⟩
 ·exact hK.elim
 ·obtain ⟨rfl,hn,rfl⟩:=hP
  repeat (first|refine aO ?_|refine aN ?_)
  refine bM ?_
  try refine om (h3:=by simp [bO,dA,G.idl,G.idls,cA,aF,aI]) ?_
  refine eJ [150,140,3000] [(0,150),(1,140),(2,3000)] (spec:=aBF 8 (by omega) (.int .i64 z.sc.1) (.int .i64 z.sc.2) z.st.length (z.st.map eE)) (hent:=yN) ?_
  refine cM ?_
  refine fk2 [0] ?_
  rw [aMr hn]
  rfl
 ·cases ht
 obtain ⟨hz,hzl,rfl⟩:=hI
 rw [List.length_map,List.take_length] at hz
 rw [List.length_map] at hzl
 have hln2:=kQ s
 have hrr:dY hZ Plt.z s=some z:=(fY hs).trans hz
 refine xcl [0,3,4,5] ?_
 repeat apply aV
 refine bK ?_
 refine pR 3000 (by (simp only [aF,aI,Nat.reduceEqDiff,reduceIte]<;>rfl)) ?_
 refine nH 140 2 .p (by (simp only [aF,aI,Nat.reduceEqDiff,reduceIte]<;>rfl)) (by rfl) (by simp only [cvS,toP,aF,aI,Nat.reduceEqDiff,reduceIte]<;>rfl) (by simp) rfl (by simp only [List.set_cons_zero,List.set_cons_succ]<;>rfl) ?_
 have hpl:gC z = .agg [.int .i64 z.sc.1,.int .i64 z.sc.2,.list (z.st.map eE)]:=rfl
 have hcase:(z.valid=true∧txt (hQ z)=s)∨(z.valid=true∧txt (hQ z)≠s)∨z.valid=false:=by
  cases z.valid with
  |false=>exact .inr (.inr rfl)
  |true=>
       by_cases h2:txt (hQ z)=s
       ·exact .inl ⟨rfl,h2⟩
       exact .inr (.inl ⟨rfl,h2⟩)
 rcases hcase with ⟨hv,ht⟩|⟨hv,ht⟩|hv
 ·apply aB
  iterate 2 refine v0 ?_
  refine oc0 [(0,0)] [] [0,0] none (spec:=rF z hv kC) (hent:=aEA) ?_
  iterate 5 refine v0 ?_
  apply aC
  refine xcl [0,3,4,5,9,10] ?_
  repeat apply aV
  refine bK ?_
  apply aB
  iterate 2 refine v0 ?_
  refine rb 40 true (h:=by (first|with_reducible rfl|exact decide_eq_true (by omega)|rfl|decide)) ?_
  refine v0 ?_
  iterate 3 refine w0 ?_
  refine rb 44 true (h:=by (first|exact decide_eq_true ht|simp [ht])) ?_
  refine v0 ?_
  refine rb 45 true (h:=by (first|with_reducible rfl|exact decide_eq_true (by omega)|rfl|decide)) ?_
  refine pc0 (spec:=bH _) (hent:=bX) ?_
  apply aC
  refine xcl [3,4,5] ?_
  repeat apply aV
  refine bK ?_
  apply aB
  refine v0 ?_
  iterate 2 refine s1 (hc:=tZ.h {}) ?_
  apply aC
  repeat apply aV
  refine bK ?_
  refine aL ?_
  repeat (first|refine aH ?_|refine aE ?_|refine aD ?_)
  refine tK ?_
  try refine om (h3:=by simp [bO,dA,G.idl,G.idls,cA,aF,aI]) ?_
  refine eJ [150,140] [(0,150),(1,140)] (spec:=aHD (.int .i64 z.sc.1) (.int .i64 z.sc.2) (.list (z.st.map eE))) (hent:=yN) ?_
  refine cM ?_
  refine fk2 [0] ?_
  rw [aPe hrr hv ht]
  rfl
 ·apply aB
  iterate 2 refine v0 ?_
  refine oc0 [(0,0)] [] [0,0] none (spec:=rF z hv kC) (hent:=aEA) ?_
  iterate 5 refine v0 ?_
  apply aC
  refine xcl [0,3,4,5,9,10] ?_
  repeat apply aV
  refine bK ?_
  apply aB
  iterate 2 refine v0 ?_
  refine rb 40 true (h:=by (first|with_reducible rfl|exact decide_eq_true (by omega)|rfl|decide)) ?_
  refine v0 ?_
  iterate 3 refine w0 ?_
  refine rb 44 false (h:=by (first|exact decide_eq_false ht|simp [ht])) ?_
  refine v0 ?_
  refine rb 45 false (h:=by (first|with_reducible rfl|exact decide_eq_false (by omega)|rfl|decide)) ?_
  refine pp0 (spec:=cX _) (hent:=bX) ?_
  repeat (first|refine aO ?_|refine aN ?_)
  refine bM ?_
  try refine om (h3:=by simp [bO,dA,G.idl,G.idls,cA,aF,aI]) ?_
  refine eJ [150,140] [(0,150),(1,140)] (spec:=aEO 8 (by omega) (.int .i64 z.sc.1) (.int .i64 z.sc.2) (.list (z.st.map eE))) (hent:=yN) ?_
  refine cM ?_
  refine fk2 [0] ?_
  rw [aMs hrr (.inr ht)]
  rfl
 apply aB
 iterate 2 refine v0 ?_
 refine oc0 [(0,0)] [] [0,0] none (spec:=xA z hv (by omega) kC) (hent:=aEA) ?_
 iterate 5 refine v0 ?_
 apply aC
 refine xcl [0,3,4,5,9,10] ?_
 repeat apply aV
 refine bK ?_
 apply aB
 iterate 2 refine v0 ?_
 refine rb 40 false (h:=by (first|with_reducible rfl|exact decide_eq_false (by omega)|rfl|decide)) ?_
 refine v0 ?_
 iterate 3 refine x0 ?_
 refine v0 ?_
 refine rb 45 false (h:=by (first|with_reducible rfl|exact decide_eq_false (by omega)|rfl|decide)) ?_
 refine pp0 (spec:=cX _) (hent:=bX) ?_
 repeat (first|refine aO ?_|refine aN ?_)
 refine bM ?_
 try refine om (h3:=by simp [bO,dA,G.idl,G.idls,cA,aF,aI]) ?_
 refine eJ [150,140] [(0,150),(1,140)] (spec:=aEO 8 (by omega) (.int .i64 z.sc.1) (.int .i64 z.sc.2) (.list (z.st.map eE))) (hent:=yN) ?_
 refine cM ?_
 refine fk2 [0] ?_
 rw [aMs hrr (.inl hv)]
 rfl
theorem aF9 (s:Str) (h:s.length≤4096) (hs:Lib.hasSuffix s [10]=false):Gh.bD E 59 [.p (.str s),.agg [.p (.fn (.func 112) [] []),.map 0,.p (.fn (.func 115) [] [])]] (aG [(0,.map kC)]) A (fun y=>y = .ok (.p (rdP s)) (aG [(0,.map kC)]) A):=by
 refine hE Tryz.func59 (rfl:Tryz.f59.body=some _) (Nat.le_of_ble_eq_true rfl) (fun id h=>?_) (fun j id h=>?_) ?_
 ·exact kA h
 ·exact kB h
 intro C hN hL
 replace hN:C.N=48:=hN
 simp only [Gh.num,List.map_cons,List.map_nil,Nat.reduceAdd]
 repeat apply aV
 refine bK ?_
 apply aB
 refine n1 130 false (hc:=tZ.h {}) ?_
 refine n1 140 false (hc:=tZ.h {}) ?_
 refine n1 150 false (hc:=tZ.h {}) ?_
 apply aC
 refine xcl [0,3,4,5] ?_
 repeat apply aV
 refine bK ?_
 apply aB
 refine v0 ?_
 refine df0 ?_
 apply aC
 refine xcl [0,3,4,5] ?_
 repeat apply aV
 refine bK ?_
 refine ad 140 2 3000 84 9 false ?_
 apply aB
 iterate 3 refine v0 ?_
 refine rb 14 true (h:=by (first|with_reducible rfl|exact decide_eq_true (by omega)|rfl|decide)) ?_
 refine pc0 (spec:=bH _) (hent:=bX) ?_
 apply aC
 refine xcl [0,3,4,5] ?_
 repeat apply aV
 refine bK ?_
 apply aB
 refine v0 ?_
 refine oc0 [] [] [0] none (spec:=jG s) (hent:=yQ) ?_
 apply aC
 refine xcl [0,3,4,5,17] ?_
 repeat apply aV
 refine iU ?_
 repeat apply aV
 refine rfY 10000 99001 [18] (fun k (z:Plt) A1=>z=Plt.z∧A1=A) (fun z=>[(130,.cells [.p (.fn (.func 112) [] []),.map 0,.p (.fn (.func 115) [] [])] 0),(140,.cells [.p (.int .i64 z.sc.1),.p (.int .i64 z.sc.2),.own 3000 z.st.length] 0),(150,.cells [.p (.int .i64 0)] 0),(0,.map kC),(3000,.arr 84 9 (z.st.map eE) false)]) (fun _ (_:Plt) _=>False) (fun _ _=>[]) (fun _ (_:Plt) _=>False) (fun _ z=>[(130,.cells [.p (.fn (.func 112) [] []),.map 0,.p (.fn (.func 115) [] [])] 0),(140,.cells [.p (.int .i64 z.sc.1),.p (.int .i64 z.sc.2),.own 3000 z.st.length] 0),(150,.cells [.p (.int .i64 0)] 0),(0,.map kC),(3000,.arr 84 9 (z.st.map eE) false)]) [] [.k] (it:=yS s (by omega) hs) (hent:=yR) (xs:=[]) (tail:=some (.iface 218 (.agg [.int .i64 8]))) (pan:=true) (hlen:=fun x hx=>by cases hx) (hshp:=fun x hx=>by cases hx) (h0:=?_) (round:=fun k z A1 x hI hx lp bs C1 hN1 hL1=>?_) (hK:=fun e z A1 hK=>?_) (hP:=fun p z A1 hP=>?_) (hT:=fun p z A1 ht hT=>?_) (hI:=fun z A1 ht hI=>?_)
 ·exact ⟨Plt.z,⟨rfl,rfl⟩,rfl⟩
 ·cases hx
 ·exact hK.elim
 ·exact hP.elim
 ·cases ht
  obtain ⟨rfl,rfl⟩:=hT
  repeat (first|refine aO ?_|refine aN ?_)
  refine bM ?_
  try refine om (h3:=by simp [bO,dA,G.idl,G.idls,cA,aF,aI]) ?_
  refine eJ [150,140,3000] [(0,150),(1,140),(2,3000)] (spec:=aBF 8 (by omega) (.int .i64 Plt.z.sc.1) (.int .i64 Plt.z.sc.2) Plt.z.st.length (Plt.z.st.map eE)) (hent:=yN) ?_
  refine cM ?_
  refine fk2 [0] ?_
  rw [aMr (aDA hs)]
  rfl
 cases ht
theorem aGa (s:Str) (h:4096<s.length):Gh.bD E 59 [.p (.str s),.agg [.p (.fn (.func 112) [] []),.map 0,.p (.fn (.func 115) [] [])]] (aG [(0,.map kC)]) A (fun y=>y = .ok (.p (.tuple [gC Plt.z,.int .i64 3])) (aG [(0,.map kC)]) A):=by
 refine hE Tryz.func59 (rfl:Tryz.f59.body=some _) (Nat.le_of_ble_eq_true rfl) (fun id h=>?_) (fun j id h=>?_) ?_
 ·exact kA h
 ·exact kB h
 intro C hN hL
 replace hN:C.N=48:=hN
 simp only [Gh.num,List.map_cons,List.map_nil,Nat.reduceAdd]
 repeat apply aV
 refine bK ?_
 apply aB
 refine n1 130 false (hc:=tZ.h {}) ?_
 refine n1 140 false (hc:=tZ.h {}) ?_
 refine n1 150 false (hc:=tZ.h {}) ?_
 apply aC
 refine xcl [0,3,4,5] ?_
 repeat apply aV
 refine bK ?_
 apply aB
 refine v0 ?_
 refine df0 ?_
 apply aC
 refine xcl [0,3,4,5] ?_
 repeat apply aV
 refine bK ?_
 refine ad 140 2 3000 84 9 false ?_
 apply aB
 iterate 3 refine v0 ?_
 refine rb 14 false (h:=by (first|with_reducible rfl|exact decide_eq_false (by omega)|rfl|decide)) ?_
 refine pp0 (spec:=cX _) (hent:=bX) ?_
 repeat (first|refine aO ?_|refine aN ?_)
 refine bM ?_
 try refine om (h3:=by simp [bO,dA,G.idl,G.idls,cA,aF,aI]) ?_
 refine eJ [150,140,3000] [(0,150),(1,140),(2,3000)] (spec:=aBF 3 (by omega) (.int .i64 0) (.int .i64 0) 0 []) (hent:=yN) ?_
 refine cM ?_
 refine fk2 [0] ?_
 rfl
theorem aBN (s:Str) (x:P) (h:s.length≤4096) (hx:rdP s=x):Gh.bD E 59 [.p (.str s),.agg [.p (.fn (.func 112) [] []),.map 0,.p (.fn (.func 115) [] [])]] (aG [(0,.map kC)]) A (fun y=>y = .ok (.p x) (aG [(0,.map kC)]) A):=by
 subst hx
 cases hs:Lib.hasSuffix s [10] with
 |true=>exact aF8 s h hs
 |false=>exact aF9 s h hs
theorem aKH {s:Str} {p:Plt} (h:pI s=some p):rdP s = .tuple [gC p,.int .i64 0]:=by unfold rdP;rw [h]
theorem aKI {s:Str} (h:pI s=none):rdP s = .tuple [gC Plt.z,.int .i64 8]:=by unfold rdP;rw [h]
theorem aMt:aJ Tryz.prog 20:=aJ.mk Tryz.func20 (by kernel_rfl) rfl
theorem aCH (s:Str) (p:Plt) (h:s.length≤4096) (hr:pI s=some p):bF Tryz.prog 20 [.str s] (.ok (.tuple [gC p,.int .i64 0])):=by
 refine bL Tryz.func20 (rfl:Tryz.f20.body=some _) rfl ?_
 intro E A C hN hL
 replace hN:C.N=9:=hN
 simp only [Gh.num,List.map_cons,List.map_nil,Nat.reduceAdd]
 unfold gC
 repeat apply aA
 apply aB
 refine n1 120 false (hc:=tZ.h {}) ?_
 refine v0 ?_
 apply aC
 refine cl [0,2] ?_
 repeat apply aA
 apply aB
 refine v0 ?_
 refine oc0 [(110,2000)] [] [] none (spec:=tX) (hent:=aET) ?_
 refine oc0 [(0,2000)] [] [0,0] none (spec:=aBN s _ h (aKH hr)) (hent:=aKG) ?_
 iterate 2 refine v0 ?_
 refine s1 (hc:=tZ.h {}) ?_
 refine v0 ?_
 apply aC
 repeat apply aA
 refine aL ?_
 repeat (first|refine aH ?_|refine aE ?_|refine aD ?_)
 refine aM ?_
 refine fp2 ?_
 rfl
theorem aIt (s:Str) (h:s.length≤4096) (hr:pI s=none):bF Tryz.prog 20 [.str s] (.ok (.tuple [gC Plt.z,.int .i64 8])):=by
 refine bL Tryz.func20 (rfl:Tryz.f20.body=some _) rfl ?_
 intro E A C hN hL
 replace hN:C.N=9:=hN
 simp only [Gh.num,List.map_cons,List.map_nil,Nat.reduceAdd]
 unfold gC
 repeat apply aA
 apply aB
 refine n1 120 false (hc:=tZ.h {}) ?_
 refine v0 ?_
 apply aC
 refine cl [0,2] ?_
 repeat apply aA
 apply aB
 refine v0 ?_
 refine oc0 [(110,2000)] [] [] none (spec:=tX) (hent:=aET) ?_
 refine oc0 [(0,2000)] [] [0,0] none (spec:=aBN s _ h (aKI hr)) (hent:=aKG) ?_
 iterate 2 refine v0 ?_
 refine s1 (hc:=tZ.h {}) ?_
 refine v0 ?_
 apply aC
 repeat apply aA
 refine aL ?_
 repeat (first|refine aH ?_|refine aE ?_|refine aD ?_)
 refine aM ?_
 refine fp2 ?_
 rfl
theorem aIu (s:Str) (h:4096<s.length):bF Tryz.prog 20 [.str s] (.ok (.tuple [gC Plt.z,.int .i64 3])):=by
 refine bL Tryz.func20 (rfl:Tryz.f20.body=some _) rfl ?_
 intro E A C hN hL
 replace hN:C.N=9:=hN
 simp only [Gh.num,List.map_cons,List.map_nil,Nat.reduceAdd]
 unfold gC
 repeat apply aA
 apply aB
 refine n1 120 false (hc:=tZ.h {}) ?_
 refine v0 ?_
 apply aC
 refine cl [0,2] ?_
 repeat apply aA
 apply aB
 refine v0 ?_
 refine oc0 [(110,2000)] [] [] none (spec:=tX) (hent:=aET) ?_
 refine oc0 [(0,2000)] [] [0,0] none (spec:=aGa s h) (hent:=aKG) ?_
 iterate 2 refine v0 ?_
 refine s1 (hc:=tZ.h {}) ?_
 refine v0 ?_
 apply aC
 repeat apply aA
 refine aL ?_
 repeat (first|refine aH ?_|refine aE ?_|refine aD ?_)
 refine aM ?_
 refine fp2 ?_
 rfl
end
section
open Go.Gh
variable {E:Env Tryz.prog} {A:E.α}
structure uA (c:Prop):Prop where
 h:c:=by (first|exact True.intro|omega|(simp only [inI];omega)|(simp [P.size,bU,bG,bR,bB,cS,good,G.one,P.one,P.cells]<;>first|omega|assumption|simp_all))
theorem zZ (c:UInt8):∀l:List UInt8,(dF c l).length≤l.length+1
 |[]=>by simp [dF]
 |b::l=>by
  have ih:=zZ c l
  rw [dF]
  split
  ·simp only [List.length_cons];omega
  cases e:dF c l with
  |nil=>simp
  |cons p ps=>rw [e] at ih;simp only [List.length_cons] at ih ⊢;omega
theorem aBO (ln:Str):(hU ln).length≤ln.length+1:=by
 have:=zZ 32 (Lib.trimSuffix ln [10])
 have:=aBm ln [10]
 unfold hU
 omega
def aLZ:TI:=⟨.func #[164] #[206] false,1,8,[.p .nilfn],false⟩
theorem aMu:eN (eX aLZ) (cP (geq Tryz.prog 6 9) (.str [99,104,97,105,110]) jL)=some (true,.p (.fn (.func 121) [] [.ptr [.fn (.func 118) [] []]])):=by simp [jL,cP,cY];rfl
theorem aMv:eN (eX aLZ) (cP (geq Tryz.prog 6 9) (.str [107,110,111,119,115]) jL)=some (true,.p (.fn (.func 122) [] [.ptr [.fn (.func 118) [] []]])):=by simp [jL,cP,cY];rfl
theorem aMw:eN (eX aLZ) (cP (geq Tryz.prog 6 9) (.str [108,111,97,110]) jL)=some (true,.p (.fn (.func 123) [] [.ptr [.fn (.func 118) [] []]])):=by simp [jL,cP,cY];rfl
theorem aPf {w:Str} (h1:w≠[99,104,97,105,110]) (h2:w≠[107,110,111,119,115]) (h3:w≠[108,111,97,110]):eN (eX aLZ) (cP (geq Tryz.prog 6 9) (.str w) jL)=some (false,.p .nilfn):=by simp [jL,cP,cY,h1,h2,h3];rfl
theorem aBP (w:Str):jP (geq Tryz.prog 6 9) (.str w) jL:=by
 simp only [jP,jL,cY,Option.isSome_some,true_and,Option.some.injEq,decide_eq_true_eq]
 intro x hx
 simp only [List.mem_cons,List.not_mem_nil,or_false] at hx
 rcases hx with rfl|rfl|rfl<;>simp [cY]<;>exact fun h=>h.symm
theorem aOp:iP Tryz.prog 208 "zoneworks/book.put" = some 234:=by kernel_rfl
theorem aOq:iP Tryz.prog 210 "zoneworks/book.put" = some 235:=by kernel_rfl
theorem aOr:iP Tryz.prog 211 "zoneworks/book.put" = some 236:=by kernel_rfl
theorem aPg {r:List Str}:(∃a b d,dI r=some [a,b,d])∨∀l,dI r=some l→(l.length:Int)≠3:=by
 cases e:dI r with
 |none=>exact .inr fun l h=>by cases h
 |some l=>match l with
  |[a,b,d]=>exact .inl ⟨a,b,d,rfl⟩
  |[]=>exact .inr fun l h=>by cases h;simp
  |[_]=>exact .inr fun l h=>by cases h;simp
  |[_,_]=>exact .inr fun l h=>by cases h;simp
  |_::_::_::_::l=>exact .inr fun l h=>by cases h;simp;omega
theorem aPK {r:List Str}:(∃a b,dI r=some [a,b])∨∀l,dI r=some l→(l.length:Int)≠2:=by
 cases e:dI r with
 |none=>exact .inr fun l h=>by cases h
 |some l=>match l with
  |[a,b]=>exact .inl ⟨a,b,rfl⟩
  |[]=>exact .inr fun l h=>by cases h;simp
  |[_]=>exact .inr fun l h=>by cases h;simp
  |_::_::_::l=>exact .inr fun l h=>by cases h;simp;omega
theorem aIv (z:Chn) (w:Str) (r:List Str):(w=[99,104,97,105,110]∧∃a b d,dI r=some [a,b,d]∧eM z (w::r)=some ({ z with pl:=a,ps:=b,ms:=d }:Chn))∨(w=[99,104,97,105,110]∧(∀l,dI r=some l→(l.length:Int)≠3)∧eM z (w::r)=none) ∨
  (w=[107,110,111,119,115]∧∃a b,dI r=some [a,b]∧eM z (w::r)=some ({ z with kn:=z.kn++[(a,b)] }:Chn))∨(w=[107,110,111,119,115]∧(∀l,dI r=some l→(l.length:Int)≠2)∧eM z (w::r)=none) ∨
  (w=[108,111,97,110]∧∃a b d,dI r=some [a,b,d]∧eM z (w::r)=some ({ z with rs:=z.rs++[(a,b,d)] }:Chn))∨(w=[108,111,97,110]∧(∀l,dI r=some l→(l.length:Int)≠3)∧eM z (w::r)=none) ∨
  ((w≠[99,104,97,105,110]∧w≠[107,110,111,119,115]∧w≠[108,111,97,110])∧eM z (w::r)=none):=by
 by_cases h1:w=[99,104,97,105,110]
 ·subst h1
  rcases aPg (r:=r) with ⟨a,b,d,e⟩|e
  ·exact .inl ⟨rfl,a,b,d,e,by simp [eM,e]⟩
  refine .inr (.inl ⟨rfl,e,?_⟩)
  simp only [eM,if_true]
  split
  ·rename_i h;have:=e _ h;simp at this
  rfl
 by_cases h2:w=[107,110,111,119,115]
 ·subst h2
  rcases aPK (r:=r) with ⟨a,b,e⟩|e
  ·exact .inr (.inr (.inl ⟨rfl,a,b,e,by simp [eM,e]⟩))
  refine .inr (.inr (.inr (.inl ⟨rfl,e,?_⟩)))
  simp only [eM,h1,if_false,if_true]
  split
  ·rename_i h;have:=e _ h;simp at this
  rfl
 by_cases h3:w=[108,111,97,110]
 ·subst h3
  rcases aPg (r:=r) with ⟨a,b,d,e⟩|e
  ·exact .inr (.inr (.inr (.inr (.inl ⟨rfl,a,b,d,e,by simp [eM,e]⟩))))
  refine .inr (.inr (.inr (.inr (.inr (.inl ⟨rfl,e,?_⟩)))))
  simp only [eM,h1,h2,if_false,if_true]
  split
  ·rename_i h;have:=e _ h;simp at this
  rfl
 exact .inr (.inr (.inr (.inr (.inr (.inr ⟨⟨h1,h2,h3⟩,by simp [eM,h1,h2,h3]⟩)))))
def rdC (s:Str):P:=match pJ s with
 |some p=>.tuple [gD p,.int .i64 0]
 |none=>.tuple [gD Chn.z,.int .i64 8]
theorem aMx {s:Str} (h:dY eM Chn.z s=none):rdC s = .tuple [gD Chn.z,.int .i64 8]:=by unfold rdC pJ;rw [h]
theorem aMy {s:Str} {p:Chn} (h:dY eM Chn.z s=some p) (h2:p.valid=false∨txt (gQ p)≠s):rdC s = .tuple [gD Chn.z,.int .i64 8]:=by
 unfold rdC pJ
 rw [h]
 rcases h2 with h2|h2<;>simp [h2]
theorem aPh {s:Str} {p:Chn} (h:dY eM Chn.z s=some p) (h1:p.valid=true) (h2:txt (gQ p)=s):rdC s = .tuple [gD p,.int .i64 0]:=by
 unfold rdC pJ
 rw [h]
 simp [h1,h2]
theorem aKJ:aJ Tryz.prog 64:=aJ.mk Tryz.func64 (by kernel_rfl) rfl
theorem aGb (s:Str) (h:s.length≤4096) (hs:Lib.hasSuffix s [10]=true):Gh.bD E 64 [.p (.str s),.agg [.p (.fn (.func 120) [] []),.map 0,.p (.fn (.func 124) [] [])]] (aG [(0,.map jL)]) A (fun y=>y = .ok (.p (rdC s)) (aG [(0,.map jL)]) A):=by
 refine hE Tryz.func64 (rfl:Tryz.f64.body=some _) (Nat.le_of_ble_eq_true rfl) (fun id h=>?_) (fun j id h=>?_) ?_
 ·exact kA h
 ·exact kB h
 intro C hN hL
 replace hN:C.N=48:=hN
 simp only [Gh.num,List.map_cons,List.map_nil,Nat.reduceAdd]
 repeat apply aV
 refine bK ?_
 apply aB
 refine n1 130 false (hc:=uA.h {}) ?_
 refine n1 140 false (hc:=uA.h {}) ?_
 refine n1 150 false (hc:=uA.h {}) ?_
 apply aC
 refine xcl [0,3,4,5] ?_
 repeat apply aV
 refine bK ?_
 apply aB
 refine v0 ?_
 refine df0 ?_
 apply aC
 refine xcl [0,3,4,5] ?_
 repeat apply aV
 refine bK ?_
 refine ad 140 2 3000 126 2 false ?_
 refine ad 140 3 3010 86 3 false ?_
 apply aB
 iterate 3 refine v0 ?_
 refine rb 14 true (h:=by (first|with_reducible rfl|exact decide_eq_true (by omega)|rfl|decide)) ?_
 refine pc0 (spec:=bH _) (hent:=bX) ?_
 apply aC
 refine xcl [0,3,4,5] ?_
 repeat apply aV
 refine bK ?_
 apply aB
 refine v0 ?_
 refine oc0 [] [] [0] none (spec:=jG s) (hent:=yQ) ?_
 apply aC
 refine xcl [0,3,4,5,17] ?_
 repeat apply aV
 refine iU ?_
 repeat apply aV
 refine rfY 10000 99001 [18] (fun k (z:Chn) A1=>run eM ((bT s).take k) Chn.z=some z∧z.kn.length≤k∧z.rs.length≤k∧A1=A) (fun z=>[(130,.cells [.p (.fn (.func 120) [] []),.map 0,.p (.fn (.func 124) [] [])] 0),(140,.cells [.p (.int .i64 z.pl),.p (.int .i64 z.ps),.own 3000 z.kn.length,.own 3010 z.rs.length,.p (.int .i64 z.ms)] 0),(150,.cells [.p (.int .i64 0)] 0),(0,.map jL),(3000,.arr 126 2 (z.kn.map pSp) false),(3010,.arr 86 3 (z.rs.map pRc) false)]) (fun _ (_:Chn) _=>False) (fun _ _=>[]) (fun p (_:Chn) A1=>p = .iface 218 (.agg [.int .i64 8])∧dY eM Chn.z s=none∧A1=A) (fun _ z=>[(130,.cells [.p (.fn (.func 120) [] []),.map 0,.p (.fn (.func 124) [] [])] 0),(140,.cells [.p (.int .i64 z.pl),.p (.int .i64 z.ps),.own 3000 z.kn.length,.own 3010 z.rs.length,.p (.int .i64 z.ms)] 0),(150,.cells [.p (.int .i64 0)] 0),(0,.map jL),(3000,.arr 126 2 (z.kn.map pSp) false),(3010,.arr 86 3 (z.rs.map pRc) false)]) [] [.k] (it:=aDp s (by omega) hs) (hent:=yR) (xs:=pls s) (tail:=none) (pan:=true) (hlen:=fun x hx=>by obtain ⟨w,_,rfl⟩:=List.mem_map.1 hx;rfl) (hshp:=fun x hx=>by obtain ⟨w,_,rfl⟩:=List.mem_map.1 hx;exact .inr ⟨_,rfl⟩) (h0:=?_) (round:=fun k z A1 x hI hx lp bs C1 hN1 hL1=>?_) (hK:=fun e z A1 hK=>?_) (hP:=fun p z A1 hP=>?_) (hT:=fun p z A1 ht hT=>?_) (hI:=fun z A1 ht hI=>?_)
 ·exact ⟨Chn.z,⟨rfl,Nat.zero_le _,Nat.zero_le _,rfl⟩,rfl⟩
 ·obtain ⟨hz,hzlkn,hzlrs,rfl⟩:=hI
  obtain ⟨ln,hln,rfl⟩:=aDB hx
  have hll:ln.length≤4096:=by have:=oP s ln (List.mem_of_getElem? hln);omega
  have hkl:k<(bT s).length:=(List.getElem?_eq_some_iff.1 hln).1
  have hln2:=kQ s
  replace hN1:C1.N=48:=hN1.trans hN
  refine (?_:gwp C1 (some lp) _ _ (sg ((18,.ref 95000 0)::_) [(95000,.cells [.p (bW (hU ln))] 0),(130,.cells [.p (.fn (.func 120) [] []),.map 0,.p (.fn (.func 124) [] [])] 0),(140,.cells [.p (.int .i64 z.pl),.p (.int .i64 z.ps),.own 3000 z.kn.length,.own 3010 z.rs.length,.p (.int .i64 z.ms)] 0),(150,.cells [.p (.int .i64 0)] 0),(0,.map jL),(3000,.arr 126 2 (z.kn.map pSp) false),(3010,.arr 86 3 (z.rs.map pRc) false)] A1 []))
  repeat apply aA
  apply aB
  refine v0 ?_
  apply aC
  refine ⟨rfl,fun bs2 C2 hN2 hL2 hr2=>?_⟩
  replace hN2:C2.N=48:=hN2.trans hN
  refine (?_:gwp C2 (some lp) _ _ (sg _ _ _ []))
  repeat apply aA
  refine aP ?_
  repeat apply aA
  obtain ⟨w,r,hwr⟩:=aDr ln
  have hsr:cG r:=fun x hx=>vX (ln:=ln) (by omega) x (by rw [hwr];exact List.mem_cons_of_mem _ hx)
  have hrl:r.length≤100000:=by have h1:=aBO ln;rw [hwr] at h1;simp only [List.length_cons] at h1;omega
  rw [hwr]
  rcases aIv z w r with ⟨rfl,a,b,d,hsp,hst⟩|⟨rfl,hsp,hst⟩|⟨rfl,a,b,hsp,hst⟩|⟨rfl,hsp,hst⟩|⟨rfl,a,b,d,hsp,hst⟩|⟨rfl,hsp,hst⟩|⟨⟨hw1,hw2,hw3⟩,hst⟩
  ·have hstep:run eM ((bT s).take (k+1)) Chn.z=some (({ z with pl:=a,ps:=b,ms:=d }:Chn)):=by rw [iL hz hln,hwr];exact hst
   repeat apply aA
   refine rd ?_
   refine d0 0 ?_
   refine d0 1 ?_
   refine d0 2 ?_
   refine dW 3 [(0,95000)] [] [0] none (spec:=cO [99,104,97,105,110] r) (hent:=dL) ?_
   refine dl 4 (hv:=aMu) (hkk:=aBP _) ?_
   refine d0 5 ?_
   refine d0 6 ?_
   refine d0 7 ?_
   refine d0 8 ?_
   refine d0 9 ?_
   refine dz 10 [0,1,0,4,15,31,63,63,127,511] ?_
   refine de 10 ?_
   refine cl [0,3,4,5,6,7,8] ?_
   repeat apply aA
   apply aB
   refine v0 ?_
   refine pc0 (spec:=bH _) (hent:=bX) ?_
   apply aC
   refine cl [0,3,4,5,6,7] ?_
   repeat apply aA
   apply aB
   iterate 2 refine v0 ?_
   refine oc0 [(0,95000)] [] [0,0] none (spec:=aIi r hsr hrl a b d hsp) (hent:=aKz) ?_
   refine oc0 [(0,140),(1,3000),(2,3010)] [] [0,0] none (spec:=aF3 (.int .i64 z.pl) (.int .i64 z.ps) (.int .i64 z.ms) rfl rfl rfl z.kn z.rs a b d) (hent:=aOj) (hg:=by (simp only [cI,gev,aT,Nat.reduceEqDiff,reduceIte,aOp]<;>rfl)) ?_
   apply aC
   refine ⟨_,({ z with pl:=a,ps:=b,ms:=d }:Chn),lc [130,140,150,0,3000,3010],rfl,?_,?_,?_,rfl⟩
   ·exact hstep
   ·(try simp only [List.length_append,List.length_cons,List.length_nil]);omega
   (try simp only [List.length_append,List.length_cons,List.length_nil]);omega
  ·have hnone:dY eM Chn.z s=none:=by rw [fY hs];exact fS hz hln (by rw [hwr];exact hst)
   repeat apply aA
   refine rd ?_
   refine d0 0 ?_
   refine d0 1 ?_
   refine d0 2 ?_
   refine dW 3 [(0,95000)] [] [0] none (spec:=cO [99,104,97,105,110] r) (hent:=dL) ?_
   refine dl 4 (hv:=aMu) (hkk:=aBP _) ?_
   refine d0 5 ?_
   refine d0 6 ?_
   refine d0 7 ?_
   refine d0 8 ?_
   refine d0 9 ?_
   refine dz 10 [0,1,0,4,15,31,63,63,127,511] ?_
   refine de 10 ?_
   refine cl [0,3,4,5,6,7,8] ?_
   repeat apply aA
   apply aB
   refine v0 ?_
   refine pc0 (spec:=bH _) (hent:=bX) ?_
   apply aC
   refine cl [0,3,4,5,6,7] ?_
   repeat apply aA
   apply aB
   iterate 2 refine v0 ?_
   refine op0 [(0,95000)] [] [0,0] none (spec:=aIj r hsr hrl hsp) (hent:=aKz) ?_
   repeat (first|refine aO ?_|refine aN ?_|refine aW ?_)
   exact ⟨rfl,z,aAk [130,140,150,0,3000,3010],rfl,hnone,rfl⟩
  ·have hstep:run eM ((bT s).take (k+1)) Chn.z=some (({ z with kn:=z.kn++[(a,b)] }:Chn)):=by rw [iL hz hln,hwr];exact hst
   repeat apply aA
   refine rd ?_
   refine d0 0 ?_
   refine d0 1 ?_
   refine d0 2 ?_
   refine dW 3 [(0,95000)] [] [0] none (spec:=cO [107,110,111,119,115] r) (hent:=dL) ?_
   refine dl 4 (hv:=aMv) (hkk:=aBP _) ?_
   refine d0 5 ?_
   refine d0 6 ?_
   refine d0 7 ?_
   refine d0 8 ?_
   refine d0 9 ?_
   refine dz 10 [0,1,0,4,15,31,63,63,127,511] ?_
   refine de 10 ?_
   refine cl [0,3,4,5,6,7,8] ?_
   repeat apply aA
   apply aB
   refine v0 ?_
   refine pc0 (spec:=bH _) (hent:=bX) ?_
   apply aC
   refine cl [0,3,4,5,6,7] ?_
   repeat apply aA
   apply aB
   iterate 2 refine v0 ?_
   refine oc0 [(0,95000)] [] [0,0] none (spec:=aIk r hsr hrl a b hsp) (hent:=aKD) ?_
   refine oc0 [(0,140),(1,3000),(2,3010)] [] [0,0] none (spec:=aF4 (.int .i64 z.pl) (.int .i64 z.ps) (.int .i64 z.ms) rfl rfl rfl z.kn z.rs (a,b) (by omega)) (hent:=aOk) (hg:=by (simp only [cI,gev,aT,Nat.reduceEqDiff,reduceIte,aOq]<;>rfl)) ?_
   apply aC
   refine ⟨_,({ z with kn:=z.kn++[(a,b)] }:Chn),lc [130,140,150,0,3000,3010],rfl,?_,?_,?_,rfl⟩
   ·exact hstep
   ·(try simp only [List.length_append,List.length_cons,List.length_nil]);omega
   (try simp only [List.length_append,List.length_cons,List.length_nil]);omega
  ·have hnone:dY eM Chn.z s=none:=by rw [fY hs];exact fS hz hln (by rw [hwr];exact hst)
   repeat apply aA
   refine rd ?_
   refine d0 0 ?_
   refine d0 1 ?_
   refine d0 2 ?_
   refine dW 3 [(0,95000)] [] [0] none (spec:=cO [107,110,111,119,115] r) (hent:=dL) ?_
   refine dl 4 (hv:=aMv) (hkk:=aBP _) ?_
   refine d0 5 ?_
   refine d0 6 ?_
   refine d0 7 ?_
   refine d0 8 ?_
   refine d0 9 ?_
   refine dz 10 [0,1,0,4,15,31,63,63,127,511] ?_
   refine de 10 ?_
   refine cl [0,3,4,5,6,7,8] ?_
   repeat apply aA
   apply aB
   refine v0 ?_
   refine pc0 (spec:=bH _) (hent:=bX) ?_
   apply aC
   refine cl [0,3,4,5,6,7] ?_
   repeat apply aA
   apply aB
   iterate 2 refine v0 ?_
   refine op0 [(0,95000)] [] [0,0] none (spec:=aIl r hsr hrl hsp) (hent:=aKD) ?_
   repeat (first|refine aO ?_|refine aN ?_|refine aW ?_)
   exact ⟨rfl,z,aAk [130,140,150,0,3000,3010],rfl,hnone,rfl⟩
  ·have hstep:run eM ((bT s).take (k+1)) Chn.z=some (({ z with rs:=z.rs++[(a,b,d)] }:Chn)):=by rw [iL hz hln,hwr];exact hst
   repeat apply aA
   refine rd ?_
   refine d0 0 ?_
   refine d0 1 ?_
   refine d0 2 ?_
   refine dW 3 [(0,95000)] [] [0] none (spec:=cO [108,111,97,110] r) (hent:=dL) ?_
   refine dl 4 (hv:=aMw) (hkk:=aBP _) ?_
   refine d0 5 ?_
   refine d0 6 ?_
   refine d0 7 ?_
   refine d0 8 ?_
   refine d0 9 ?_
   refine dz 10 [0,1,0,4,15,31,63,63,127,511] ?_
   refine de 10 ?_
   refine cl [0,3,4,5,6,7,8] ?_
   repeat apply aA
   apply aB
   refine v0 ?_
   refine pc0 (spec:=bH _) (hent:=bX) ?_
   apply aC
   refine cl [0,3,4,5,6,7] ?_
   repeat apply aA
   apply aB
   iterate 2 refine v0 ?_
   refine oc0 [(0,95000)] [] [0,0] none (spec:=aKB r hsr hrl a b d hsp) (hent:=aKA) ?_
   refine oc0 [(0,140),(1,3000),(2,3010)] [] [0,0] none (spec:=aIq (.int .i64 z.pl) (.int .i64 z.ps) (.int .i64 z.ms) rfl rfl rfl z.kn z.rs (a,b,d) (by omega)) (hent:=aOl) (hg:=by (simp only [cI,gev,aT,Nat.reduceEqDiff,reduceIte,aOr]<;>rfl)) ?_
   apply aC
   refine ⟨_,({ z with rs:=z.rs++[(a,b,d)] }:Chn),lc [130,140,150,0,3000,3010],rfl,?_,?_,?_,rfl⟩
   ·exact hstep
   ·(try simp only [List.length_append,List.length_cons,List.length_nil]);omega
   (try simp only [List.length_append,List.length_cons,List.length_nil]);omega
  ·have hnone:dY eM Chn.z s=none:=by rw [fY hs];exact fS hz hln (by rw [hwr];exact hst)
   repeat apply aA
   refine rd ?_
   refine d0 0 ?_
   refine d0 1 ?_
   refine d0 2 ?_
   refine dW 3 [(0,95000)] [] [0] none (spec:=cO [108,111,97,110] r) (hent:=dL) ?_
   refine dl 4 (hv:=aMw) (hkk:=aBP _) ?_
   refine d0 5 ?_
   refine d0 6 ?_
   refine d0 7 ?_
   refine d0 8 ?_
   refine d0 9 ?_
   refine dz 10 [0,1,0,4,15,31,63,63,127,511] ?_
   refine de 10 ?_
   refine cl [0,3,4,5,6,7,8] ?_
   repeat apply aA
   apply aB
   refine v0 ?_
   refine pc0 (spec:=bH _) (hent:=bX) ?_
   apply aC
   refine cl [0,3,4,5,6,7] ?_
   repeat apply aA
   apply aB
   iterate 2 refine v0 ?_
   refine op0 [(0,95000)] [] [0,0] none (spec:=aKC r hsr hrl hsp) (hent:=aKA) ?_
   repeat (first|refine aO ?_|refine aN ?_|refine aW ?_)
   exact ⟨rfl,z,aAk [130,140,150,0,3000,3010],rfl,hnone,rfl⟩
  have hnone:dY eM Chn.z s=none:=by rw [fY hs];exact fS hz hln (by rw [hwr];exact hst)
  repeat apply aA
  refine rd ?_
  refine d0 0 ?_
  refine d0 1 ?_
  refine d0 2 ?_
  refine dW 3 [(0,95000)] [] [0] none (spec:=cO w r) (hent:=dL) ?_
  refine dl 4 (hv:=aPf hw1 hw2 hw3) (hkk:=aBP _) ?_
  refine d0 5 ?_
  refine d0 6 ?_
  refine d0 7 ?_
  refine d0 8 ?_
  refine d0 9 ?_
  refine dz 10 [0,1,0,4,15,31,63,63,127,511] ?_
  refine de 10 ?_
  refine cl [0,3,4,5,6,7,8] ?_
  repeat apply aA
  apply aB
  refine v0 ?_
  refine pp0 (spec:=cX _) (hent:=bX) ?_
  repeat (first|refine aO ?_|refine aN ?_|refine aW ?_)
  exact ⟨rfl,z,aAk [130,140,150,0,3000,3010],rfl,hnone,rfl⟩
 ·exact hK.elim
 ·obtain ⟨rfl,hn,rfl⟩:=hP
  repeat (first|refine aO ?_|refine aN ?_)
  refine bM ?_
  try refine om (h3:=by simp [bO,dA,G.idl,G.idls,cA,aF,aI]) ?_
  refine eJ [150,140,3000,3010] [(0,150),(1,140),(2,3000),(3,3010)] (spec:=aBG 8 (by omega) (.int .i64 z.pl) (.int .i64 z.ps) (.int .i64 z.ms) z.kn.length (z.kn.map pSp) z.rs.length (z.rs.map pRc)) (hent:=zB) ?_
  refine cM ?_
  refine fk2 [0] ?_
  rw [aMx hn]
  rfl
 ·cases ht
 obtain ⟨hz,hzlkn,hzlrs,rfl⟩:=hI
 rw [List.length_map,List.take_length] at hz
 rw [List.length_map] at hzlkn hzlrs
 have hln2:=kQ s
 have hrr:dY eM Chn.z s=some z:=(fY hs).trans hz
 refine xcl [0,3,4,5] ?_
 repeat apply aV
 refine bK ?_
 refine pR 3000 (by (simp only [aF,aI,Nat.reduceEqDiff,reduceIte]<;>rfl)) ?_
 refine pR 3010 (by (simp only [aF,aI,Nat.reduceEqDiff,reduceIte]<;>rfl)) ?_
 refine nH 140 2 .p (by (simp only [aF,aI,Nat.reduceEqDiff,reduceIte]<;>rfl)) (by rfl) (by simp only [cvS,toP,aF,aI,Nat.reduceEqDiff,reduceIte]<;>rfl) (by simp) rfl (by simp only [List.set_cons_zero,List.set_cons_succ]<;>rfl) ?_
 refine nH 140 3 .p (by (simp only [aF,aI,Nat.reduceEqDiff,reduceIte]<;>rfl)) (by rfl) (by simp only [cvS,toP,aF,aI,Nat.reduceEqDiff,reduceIte]<;>rfl) (by simp) rfl (by simp only [List.set_cons_zero,List.set_cons_succ]<;>rfl) ?_
 have hpl:gD z = .agg [.int .i64 z.pl,.int .i64 z.ps,.list (z.kn.map pSp),.list (z.rs.map pRc),.int .i64 z.ms]:=rfl
 have hcase:(z.valid=true∧txt (gQ z)=s)∨(z.valid=true∧txt (gQ z)≠s)∨z.valid=false:=by
  cases z.valid with
  |false=>exact .inr (.inr rfl)
  |true=>
       by_cases h2:txt (gQ z)=s
       ·exact .inl ⟨rfl,h2⟩
       exact .inr (.inl ⟨rfl,h2⟩)
 rcases hcase with ⟨hv,ht⟩|⟨hv,ht⟩|hv
 ·apply aB
  iterate 2 refine v0 ?_
  refine oc0 [(0,0)] [] [0,0] none (spec:=rG z hv jL) (hent:=aEB) ?_
  iterate 5 refine v0 ?_
  apply aC
  refine xcl [0,3,4,5,9,10] ?_
  repeat apply aV
  refine bK ?_
  apply aB
  iterate 2 refine v0 ?_
  refine rb 40 true (h:=by (first|with_reducible rfl|exact decide_eq_true (by omega)|rfl|decide)) ?_
  refine v0 ?_
  iterate 3 refine w0 ?_
  refine rb 44 true (h:=by (first|exact decide_eq_true ht|simp [ht])) ?_
  refine v0 ?_
  refine rb 45 true (h:=by (first|with_reducible rfl|exact decide_eq_true (by omega)|rfl|decide)) ?_
  refine pc0 (spec:=bH _) (hent:=bX) ?_
  apply aC
  refine xcl [3,4,5] ?_
  repeat apply aV
  refine bK ?_
  apply aB
  refine v0 ?_
  iterate 2 refine s1 (hc:=uA.h {}) ?_
  apply aC
  repeat apply aV
  refine bK ?_
  refine aL ?_
  repeat (first|refine aH ?_|refine aE ?_|refine aD ?_)
  refine tK ?_
  try refine om (h3:=by simp [bO,dA,G.idl,G.idls,cA,aF,aI]) ?_
  refine eJ [150,140] [(0,150),(1,140)] (spec:=aHW (.int .i64 z.pl) (.int .i64 z.ps) (.list (z.kn.map pSp)) (.list (z.rs.map pRc)) (.int .i64 z.ms)) (hent:=zB) ?_
  refine cM ?_
  refine fk2 [0] ?_
  rw [aPh hrr hv ht]
  rfl
 ·apply aB
  iterate 2 refine v0 ?_
  refine oc0 [(0,0)] [] [0,0] none (spec:=rG z hv jL) (hent:=aEB) ?_
  iterate 5 refine v0 ?_
  apply aC
  refine xcl [0,3,4,5,9,10] ?_
  repeat apply aV
  refine bK ?_
  apply aB
  iterate 2 refine v0 ?_
  refine rb 40 true (h:=by (first|with_reducible rfl|exact decide_eq_true (by omega)|rfl|decide)) ?_
  refine v0 ?_
  iterate 3 refine w0 ?_
  refine rb 44 false (h:=by (first|exact decide_eq_false ht|simp [ht])) ?_
  refine v0 ?_
  refine rb 45 false (h:=by (first|with_reducible rfl|exact decide_eq_false (by omega)|rfl|decide)) ?_
  refine pp0 (spec:=cX _) (hent:=bX) ?_
  repeat (first|refine aO ?_|refine aN ?_)
  refine bM ?_
  try refine om (h3:=by simp [bO,dA,G.idl,G.idls,cA,aF,aI]) ?_
  refine eJ [150,140] [(0,150),(1,140)] (spec:=aEP 8 (by omega) (.int .i64 z.pl) (.int .i64 z.ps) (.list (z.kn.map pSp)) (.list (z.rs.map pRc)) (.int .i64 z.ms)) (hent:=zB) ?_
  refine cM ?_
  refine fk2 [0] ?_
  rw [aMy hrr (.inr ht)]
  rfl
 apply aB
 iterate 2 refine v0 ?_
 refine oc0 [(0,0)] [] [0,0] none (spec:=xB z hv (by omega) (by omega) jL) (hent:=aEB) ?_
 iterate 5 refine v0 ?_
 apply aC
 refine xcl [0,3,4,5,9,10] ?_
 repeat apply aV
 refine bK ?_
 apply aB
 iterate 2 refine v0 ?_
 refine rb 40 false (h:=by (first|with_reducible rfl|exact decide_eq_false (by omega)|rfl|decide)) ?_
 refine v0 ?_
 iterate 3 refine x0 ?_
 refine v0 ?_
 refine rb 45 false (h:=by (first|with_reducible rfl|exact decide_eq_false (by omega)|rfl|decide)) ?_
 refine pp0 (spec:=cX _) (hent:=bX) ?_
 repeat (first|refine aO ?_|refine aN ?_)
 refine bM ?_
 try refine om (h3:=by simp [bO,dA,G.idl,G.idls,cA,aF,aI]) ?_
 refine eJ [150,140] [(0,150),(1,140)] (spec:=aEP 8 (by omega) (.int .i64 z.pl) (.int .i64 z.ps) (.list (z.kn.map pSp)) (.list (z.rs.map pRc)) (.int .i64 z.ms)) (hent:=zB) ?_
 refine cM ?_
 refine fk2 [0] ?_
 rw [aMy hrr (.inl hv)]
 rfl
theorem aGc (s:Str) (h:s.length≤4096) (hs:Lib.hasSuffix s [10]=false):Gh.bD E 64 [.p (.str s),.agg [.p (.fn (.func 120) [] []),.map 0,.p (.fn (.func 124) [] [])]] (aG [(0,.map jL)]) A (fun y=>y = .ok (.p (rdC s)) (aG [(0,.map jL)]) A):=by
 refine hE Tryz.func64 (rfl:Tryz.f64.body=some _) (Nat.le_of_ble_eq_true rfl) (fun id h=>?_) (fun j id h=>?_) ?_
 ·exact kA h
 ·exact kB h
 intro C hN hL
 replace hN:C.N=48:=hN
 simp only [Gh.num,List.map_cons,List.map_nil,Nat.reduceAdd]
 repeat apply aV
 refine bK ?_
 apply aB
 refine n1 130 false (hc:=uA.h {}) ?_
 refine n1 140 false (hc:=uA.h {}) ?_
 refine n1 150 false (hc:=uA.h {}) ?_
 apply aC
 refine xcl [0,3,4,5] ?_
 repeat apply aV
 refine bK ?_
 apply aB
 refine v0 ?_
 refine df0 ?_
 apply aC
 refine xcl [0,3,4,5] ?_
 repeat apply aV
 refine bK ?_
 refine ad 140 2 3000 126 2 false ?_
 refine ad 140 3 3010 86 3 false ?_
 apply aB
 iterate 3 refine v0 ?_
 refine rb 14 true (h:=by (first|with_reducible rfl|exact decide_eq_true (by omega)|rfl|decide)) ?_
 refine pc0 (spec:=bH _) (hent:=bX) ?_
 apply aC
 refine xcl [0,3,4,5] ?_
 repeat apply aV
 refine bK ?_
 apply aB
 refine v0 ?_
 refine oc0 [] [] [0] none (spec:=jG s) (hent:=yQ) ?_
 apply aC
 refine xcl [0,3,4,5,17] ?_
 repeat apply aV
 refine iU ?_
 repeat apply aV
 refine rfY 10000 99001 [18] (fun k (z:Chn) A1=>z=Chn.z∧A1=A) (fun z=>[(130,.cells [.p (.fn (.func 120) [] []),.map 0,.p (.fn (.func 124) [] [])] 0),(140,.cells [.p (.int .i64 z.pl),.p (.int .i64 z.ps),.own 3000 z.kn.length,.own 3010 z.rs.length,.p (.int .i64 z.ms)] 0),(150,.cells [.p (.int .i64 0)] 0),(0,.map jL),(3000,.arr 126 2 (z.kn.map pSp) false),(3010,.arr 86 3 (z.rs.map pRc) false)]) (fun _ (_:Chn) _=>False) (fun _ _=>[]) (fun _ (_:Chn) _=>False) (fun _ z=>[(130,.cells [.p (.fn (.func 120) [] []),.map 0,.p (.fn (.func 124) [] [])] 0),(140,.cells [.p (.int .i64 z.pl),.p (.int .i64 z.ps),.own 3000 z.kn.length,.own 3010 z.rs.length,.p (.int .i64 z.ms)] 0),(150,.cells [.p (.int .i64 0)] 0),(0,.map jL),(3000,.arr 126 2 (z.kn.map pSp) false),(3010,.arr 86 3 (z.rs.map pRc) false)]) [] [.k] (it:=yS s (by omega) hs) (hent:=yR) (xs:=[]) (tail:=some (.iface 218 (.agg [.int .i64 8]))) (pan:=true) (hlen:=fun x hx=>by cases hx) (hshp:=fun x hx=>by cases hx) (h0:=?_) (round:=fun k z A1 x hI hx lp bs C1 hN1 hL1=>?_) (hK:=fun e z A1 hK=>?_) (hP:=fun p z A1 hP=>?_) (hT:=fun p z A1 ht hT=>?_) (hI:=fun z A1 ht hI=>?_)
 ·exact ⟨Chn.z,⟨rfl,rfl⟩,rfl⟩
 ·cases hx
 ·exact hK.elim
 ·exact hP.elim
 ·cases ht
  obtain ⟨rfl,rfl⟩:=hT
  repeat (first|refine aO ?_|refine aN ?_)
  refine bM ?_
  try refine om (h3:=by simp [bO,dA,G.idl,G.idls,cA,aF,aI]) ?_
  refine eJ [150,140,3000,3010] [(0,150),(1,140),(2,3000),(3,3010)] (spec:=aBG 8 (by omega) (.int .i64 Chn.z.pl) (.int .i64 Chn.z.ps) (.int .i64 Chn.z.ms) Chn.z.kn.length (Chn.z.kn.map pSp) Chn.z.rs.length (Chn.z.rs.map pRc)) (hent:=zB) ?_
  refine cM ?_
  refine fk2 [0] ?_
  rw [aMx (aDA hs)]
  rfl
 cases ht
theorem aGd (s:Str) (h:4096<s.length):Gh.bD E 64 [.p (.str s),.agg [.p (.fn (.func 120) [] []),.map 0,.p (.fn (.func 124) [] [])]] (aG [(0,.map jL)]) A (fun y=>y = .ok (.p (.tuple [gD Chn.z,.int .i64 3])) (aG [(0,.map jL)]) A):=by
 refine hE Tryz.func64 (rfl:Tryz.f64.body=some _) (Nat.le_of_ble_eq_true rfl) (fun id h=>?_) (fun j id h=>?_) ?_
 ·exact kA h
 ·exact kB h
 intro C hN hL
 replace hN:C.N=48:=hN
 simp only [Gh.num,List.map_cons,List.map_nil,Nat.reduceAdd]
 repeat apply aV
 refine bK ?_
 apply aB
 refine n1 130 false (hc:=uA.h {}) ?_
 refine n1 140 false (hc:=uA.h {}) ?_
 refine n1 150 false (hc:=uA.h {}) ?_
 apply aC
 refine xcl [0,3,4,5] ?_
 repeat apply aV
 refine bK ?_
 apply aB
 refine v0 ?_
 refine df0 ?_
 apply aC
 refine xcl [0,3,4,5] ?_
 repeat apply aV
 refine bK ?_
 refine ad 140 2 3000 126 2 false ?_
 refine ad 140 3 3010 86 3 false ?_
 apply aB
 iterate 3 refine v0 ?_
 refine rb 14 false (h:=by (first|with_reducible rfl|exact decide_eq_false (by omega)|rfl|decide)) ?_
 refine pp0 (spec:=cX _) (hent:=bX) ?_
 repeat (first|refine aO ?_|refine aN ?_)
 refine bM ?_
 try refine om (h3:=by simp [bO,dA,G.idl,G.idls,cA,aF,aI]) ?_
 refine eJ [150,140,3000,3010] [(0,150),(1,140),(2,3000),(3,3010)] (spec:=aBG 3 (by omega) (.int .i64 0) (.int .i64 0) (.int .i64 0) 0 [] 0 []) (hent:=zB) ?_
 refine cM ?_
 refine fk2 [0] ?_
 rfl
theorem aBQ (s:Str) (x:P) (h:s.length≤4096) (hx:rdC s=x):Gh.bD E 64 [.p (.str s),.agg [.p (.fn (.func 120) [] []),.map 0,.p (.fn (.func 124) [] [])]] (aG [(0,.map jL)]) A (fun y=>y = .ok (.p x) (aG [(0,.map jL)]) A):=by
 subst hx
 cases hs:Lib.hasSuffix s [10] with
 |true=>exact aGb s h hs
 |false=>exact aGc s h hs
theorem aKK {s:Str} {p:Chn} (h:pJ s=some p):rdC s = .tuple [gD p,.int .i64 0]:=by unfold rdC;rw [h]
theorem aKL {s:Str} (h:pJ s=none):rdC s = .tuple [gD Chn.z,.int .i64 8]:=by unfold rdC;rw [h]
theorem aMz:aJ Tryz.prog 26:=aJ.mk Tryz.func26 (by kernel_rfl) rfl
theorem aCI (s:Str) (p:Chn) (h:s.length≤4096) (hr:pJ s=some p):bF Tryz.prog 26 [.str s] (.ok (.tuple [gD p,.int .i64 0])):=by
 refine bL Tryz.func26 (rfl:Tryz.f26.body=some _) rfl ?_
 intro E A C hN hL
 replace hN:C.N=9:=hN
 simp only [Gh.num,List.map_cons,List.map_nil,Nat.reduceAdd]
 unfold gD
 repeat apply aA
 apply aB
 refine n1 120 false (hc:=uA.h {}) ?_
 refine v0 ?_
 apply aC
 refine cl [0,2] ?_
 repeat apply aA
 apply aB
 refine v0 ?_
 refine oc0 [(120,2000)] [] [] none (spec:=tY) (hent:=aEU) ?_
 refine oc0 [(0,2000)] [] [0,0] none (spec:=aBQ s _ h (aKK hr)) (hent:=aKJ) ?_
 iterate 2 refine v0 ?_
 refine s1 (hc:=uA.h {}) ?_
 refine v0 ?_
 apply aC
 repeat apply aA
 refine aL ?_
 repeat (first|refine aH ?_|refine aE ?_|refine aD ?_)
 refine aM ?_
 refine fp2 ?_
 rfl
theorem aIw (s:Str) (h:s.length≤4096) (hr:pJ s=none):bF Tryz.prog 26 [.str s] (.ok (.tuple [gD Chn.z,.int .i64 8])):=by
 refine bL Tryz.func26 (rfl:Tryz.f26.body=some _) rfl ?_
 intro E A C hN hL
 replace hN:C.N=9:=hN
 simp only [Gh.num,List.map_cons,List.map_nil,Nat.reduceAdd]
 unfold gD
 repeat apply aA
 apply aB
 refine n1 120 false (hc:=uA.h {}) ?_
 refine v0 ?_
 apply aC
 refine cl [0,2] ?_
 repeat apply aA
 apply aB
 refine v0 ?_
 refine oc0 [(120,2000)] [] [] none (spec:=tY) (hent:=aEU) ?_
 refine oc0 [(0,2000)] [] [0,0] none (spec:=aBQ s _ h (aKL hr)) (hent:=aKJ) ?_
 iterate 2 refine v0 ?_
 refine s1 (hc:=uA.h {}) ?_
 refine v0 ?_
 apply aC
 repeat apply aA
 refine aL ?_
 repeat (first|refine aH ?_|refine aE ?_|refine aD ?_)
 refine aM ?_
 refine fp2 ?_
 rfl
theorem aIx (s:Str) (h:4096<s.length):bF Tryz.prog 26 [.str s] (.ok (.tuple [gD Chn.z,.int .i64 3])):=by
 refine bL Tryz.func26 (rfl:Tryz.f26.body=some _) rfl ?_
 intro E A C hN hL
 replace hN:C.N=9:=hN
 simp only [Gh.num,List.map_cons,List.map_nil,Nat.reduceAdd]
 unfold gD
 repeat apply aA
 apply aB
 refine n1 120 false (hc:=uA.h {}) ?_
 refine v0 ?_
 apply aC
 refine cl [0,2] ?_
 repeat apply aA
 apply aB
 refine v0 ?_
 refine oc0 [(120,2000)] [] [] none (spec:=tY) (hent:=aEU) ?_
 refine oc0 [(0,2000)] [] [0,0] none (spec:=aGd s h) (hent:=aKJ) ?_
 iterate 2 refine v0 ?_
 refine s1 (hc:=uA.h {}) ?_
 refine v0 ?_
 apply aC
 repeat apply aA
 refine aL ?_
 repeat (first|refine aH ?_|refine aE ?_|refine aD ?_)
 refine aM ?_
 refine fp2 ?_
 rfl
end
end Go.Proofs.YtecmhhpccmaeiaaGreatDoor
