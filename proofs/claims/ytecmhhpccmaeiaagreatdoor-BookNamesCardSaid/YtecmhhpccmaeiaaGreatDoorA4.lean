/- A way of reading machine states as plain values, with its rules; no program in sight. Made small by a program of ours. -/
import Derived.Test.YtecmhhpccmaeiaaGreatDoorA3
import Derived.Below
import Derived.Carry
import Derived.OpenShut
import Derived.RowKit3
import Derived.ProofKit
import Derived.ChangeCalls
set_option linter.unusedVariables false
set_option linter.unusedSimpArgs false
set_option linter.unusedSectionVars false
namespace Go.Gh
section
open Go.RowKit Go.ChangeShapes Go.WideShapes Go.ChangeAt
def aMw (P : Program) (n : Nat) (t : TypeId) : Option (Bool × List S) :=
 match P.underlying t with
 | some (.struct _) => (shp P n false t).bind fun ss => if P.cellsOf t = ss.length then some (true, ss) else none
 | some (.array _ _) => (shp P n false t).bind fun ss => if P.cellsOf t = ss.length then some (true, ss) else none
 | _ => (shp P n false t).bind fun ss => if P.cellsOf t = ss.length ∧ ss.length = 1 then some (false, ss) else none
def aDV (P : Program) (n : Nat) : List TypeId → Option (List (Bool × List S))
 | [] => some []
 | t :: ts => match aMw P n t, aDV P n ts with
  | some s, some ss => some (s :: ss)
  | _, _ => none
def aKF : Bool × List S → P → Prop
 | (true, ss), x => ∃ cs, x = .agg cs ∧ eH ss cs
 | (false, ss), x => eH ss [x]
def aAX : List (Bool × List S) → List P → Prop
 | [], xs => xs = []
 | s :: ss, xs => ∃ y ys, xs = y :: ys ∧ aKF s y ∧ aAX ss ys
variable {H : Type} {enc : TypeId × Value → H} {Pg : Program} {W : World} {base : Nat} {spare : Nat → Bool} {held : Bool}
theorem aB4 {u : TypeId} {a : Addr} {len cap : Nat} {r : Reach} (h : Cell.okWide Pg W r base u (.slice (some a) len cap)) : a.spot = none := by
 unfold Cell.okWide at h
 cases hu : Pg.underlying u with
 | none => simp [hu, Cell.ok] at h
 | some d =>
  rw [hu] at h
  cases d <;> simp [Cell.ok, hu] at h
  exact h.2.2.2.1
theorem aG4 {t : TypeId} {cs : Array Value} {r : Reach} (h : Row.okWide Pg W r base t cs) : aB2 cs.toList := fun a len cap hm => by
 obtain ⟨ts, _, _, h⟩ := h
 obtain ⟨i, hi⟩ := List.getElem?_of_mem hm
 obtain ⟨u, _, hk⟩ := h i _ (by simpa using hi)
 exact aB4 hk
theorem aMx {n : Nat} {t : TypeId} {v : Value} {d : DataW H} {p : List MemPlace} {s : Bool × List S} {r : Reach} {b0 : Nat} (h : DataW.Trod enc Pg W base spare held t v d p) (hv : Value.okWide Pg W r b0 t v) (hs : aMw Pg n t = some s) :
  ∃ x, aS (eP W) x v ∧ aKF s x := by
 obtain ⟨fuel, h⟩ := h
 have aggs : (∃ cs, v = .agg cs ∧ cs.size = Pg.cellsOf t ∧ Row.okWide Pg W r b0 t cs) → (((shp Pg n false t).bind fun ss => if Pg.cellsOf t = ss.length then some (true, ss) else none) = some s) → ∃ x, aS (eP W) x v ∧ aKF s x := by
  rintro ⟨cs, rfl, hl, ho⟩ hs
  simp only [Option.bind_eq_some_iff] at hs
  obtain ⟨ss, hss, hs⟩ := hs
  split at hs
  ·rename_i hc
   simp only [Option.some.injEq] at hs; subst hs
   obtain ⟨ps, q1, q2⟩ := aB3 n false t ss hss _ _ _ h (fun _ => aG4 ho) hc
   refine ⟨.agg ps, ?_, ps, rfl, q2⟩
   simp only [aS]
   exact ⟨_, rfl, q1⟩
  ·cases hs
 have ones : v.cells = #[v] → Cell.okWide Pg W r b0 t v → (((shp Pg n false t).bind fun ss => if Pg.cellsOf t = ss.length ∧ ss.length = 1 then some (false, ss) else none) = some s) → ∃ x, aS (eP W) x v ∧ aKF s x := by
  intro hv1 ho hs
  simp only [Option.bind_eq_some_iff] at hs
  obtain ⟨ss, hss, hs⟩ := hs
  split at hs
  ·rename_i hc
   simp only [Option.some.injEq] at hs; subst hs
   obtain ⟨ps, q1, q2⟩ := aB3 n false t ss hss _ _ _ h (fun _ => by
    rw [hv1]
    intro a len cap hm
    simp at hm; subst hm
    exact aB4 ho) hc.1
   have hl := q2.length
   rw [hc.2] at hl
   obtain ⟨x, rfl⟩ := List.length_eq_one_iff.1 hl
   rw [hv1] at q1
   simp only [aU] at q1
   obtain ⟨v', vs, e, q, e'⟩ := q1
   subst e'
   simp at e; subst e
   exact ⟨x, q, q2⟩
  ·cases hs
 unfold aMw at hs
 unfold Value.okWide at hv
 split at hs
 ·rename_i hu; rw [hu] at hv; exact aggs hv hs
 ·rename_i hu; rw [hu] at hv; exact aggs hv hs
 ·rename_i h1 h2
  have ho : Cell.okWide Pg W r b0 t v := by
   revert hv
   cases hu : Pg.underlying t with
   | none => exact id
   | some d => cases d <;> first | exact id | exact absurd hu (h1 _) | exact absurd hu (h2 _ _)
  refine ones ?_ ho hs
  revert ho
  unfold Cell.okWide
  cases v with
  | agg cs => cases hu : Pg.underlying t with
   | none => simp [Cell.ok, hu]
   | some d => cases d <;> simp [Cell.ok, hu]
  | _ => intro _; rfl
theorem aF5 {n : Nat} : ∀ {ts : List TypeId} {vs : List Value} {ds : List (DataW H)} {p : List MemPlace} {ss : List (Bool × List S)} {r : Reach} {b0 : Nat}, DataW.TrodAll enc Pg W base spare held ts vs ds p →
  (∀ (j : Nat) t v, ts[j]? = some t → vs[j]? = some v → Value.okWide Pg W r b0 t v) → aDV Pg n ts = some ss → ∃ ps, aU (eP W) ps vs ∧ aAX ss ps
 | [], vs, ds, p, ss, r, b0, h, _, hs => by
  obtain ⟨rfl, _⟩ := trodAll_nil h
  simp only [aDV, Option.some.injEq] at hs; subst hs
  exact ⟨[], by simp [aU], by simp [aAX]⟩
 | t :: ts, vs, ds, p, ss, r, b0, h, hv, hs => by
  obtain ⟨v, vs', d, ds', p', q, rfl, rfl, rfl, h1, h2⟩ := trodAll_cons h
  unfold aDV at hs
  split at hs
  ·rename_i s ss' e1 e2
   simp only [Option.some.injEq] at hs; subst hs
   obtain ⟨x, k1, k2⟩ := aMx h1 (hv 0 t v rfl rfl) e1
   obtain ⟨xs, k3, k4⟩ := aF5 h2 (fun j t v a b => hv (j + 1) t v (by simpa using a) (by simpa using b)) e2
   refine ⟨x :: xs, ?_, ?_⟩
   ·simp only [aU]; exact ⟨_, _, rfl, k1, k3⟩
   ·simp only [aAX]; exact ⟨_, _, rfl, k2, k4⟩
  ·cases hs
theorem uP (hl : laidOutB Pg = true) {W W' : World} (hb : Below W.heap.size W W') : ∀ {ts : List TypeId} {vs : List Value} {ds : List (DataW H)} {p : List MemPlace},
  (ts.all fun t => Pg.readableRec t && decide (t < Pg.types.size)) = true → DataW.TrodAll enc Pg W 0 (fun _ => true) true ts vs ds p →
  DataW.TrodAll enc Pg W' 0 (fun b => decide (b < W.heap.size)) true ts vs ds p
 | [], vs, ds, p, _, h => by
  obtain ⟨rfl, rfl, rfl⟩ := trodAll_nil h
  exact trodAll_mk0
 | t :: ts, vs, ds, p, ht, h => by
  obtain ⟨v, vs', d, ds', p', q, rfl, rfl, rfl, h1, h2⟩ := trodAll_cons h
  simp only [List.all_cons, Bool.and_eq_true, decide_eq_true_eq] at ht
  have lt : ∀ x ∈ p', x.block < W.heap.size := by obtain ⟨m, hm⟩ := h1; exact DataW.trod_lt m _ _ _ hm
  exact trodAll_cons_mk (Below.trod hl ht.1.1 ht.1.2 h1 hb lt) (uP hl hb ht.2 h2)
theorem aIW {sp : ChangeSpec} {fn : Func} {f : FuncId} {n : Nat} {ss : List (Bool × List S)} {b : TypeId}
  (hl : laidOutB Pg = true) (hrd : (fn.params.toList.all fun t => Pg.readableRec t && decide (t < Pg.types.size)) = true)
  (hss : aDV Pg n fn.params.toList = some ss) (hres : fn.resultTypes = #[b]) (hb : Pg.underlying b = some .bool) (hvars : sp.vars = [])
  (hsp : ∀ ds : List (DataW H), ds.length = fn.params.size → sp.fn H ds = { results := [.lit (.bool true)], args := ds })
  [Kn Pg] (hlaw : ∀ ps, aAX ss ps → bZ Pg f ps (.ok (.bool true)))
  {args : Array Value} {ds gs : List (DataW H)} {before : List MemPlace} {base : Nat} (hg : Kn.good Pg (eP W))
  (hval : ∀ (j : Nat) t v, fn.params[j]? = some t → args[j]? = some v → Value.okWide Pg W .any base t v)
  (hW : DataW.Whole enc Pg fn.params.toList sp.vars false W args.toList ds gs before) :
  Calls Pg f args W fun e W' => ∃ v, e = .returned v ∧ sp.post enc Pg fn false true false false W args v W' := by
 have hW' := hW
 obtain ⟨p, q, hA, hV, rfl, hfz, hnd⟩ := hW
 rw [hvars] at hV
 obtain ⟨rfl, rfl⟩ := trodVars_none hV
 have hval' : ∀ (j : Nat) t v, fn.params.toList[j]? = some t → args.toList[j]? = some v → Value.okWide Pg W .any base t v := fun j t v h1 h2 =>
  hval j t v (by simpa using h1) (by simpa using h2)
 obtain ⟨ps, k1, k2⟩ := aF5 hA hval' hss
 have hds : ds.length = fn.params.size := by
  have := (trodAll_length hA).2
  simpa using this
 have := aIP (w := W) (hlaw ps k2) hg k1
 refine (Calls.mono this) fun e W' ⟨u, π', he, hu, hbel⟩ => ?_
 simp only [aS] at hu; subst hu
 refine ⟨_, he, ds, [], _, [], p, [], hW', ?_, ?_, ?_, hbel.frame _, fun h => by cases h⟩
 ·rw [List.append_nil, hsp ds hds, hres]
  exact trodAll_mk1 (shut_bool hb _)
 ·rw [List.append_nil, hsp ds hds]
  exact uP hl hbel hrd hA
 ·rw [List.append_nil, hsp ds hds, hvars]
  rfl
end
end Go.Gh
