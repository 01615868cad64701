/- A way of reading machine states as plain values, with its rules; no program in sight. Made small by a program of ours. -/
import Derived.Test.YtecmhhpccmaeiaaGreatDoorA2
import Derived.RangeFuncNested
import Derived.RecoverIn
import Derived.RangeFuncLeaves
import Derived.Laws.Cover3
import Derived.Laws.IdiomCopy
import Derived.Below
import Derived.Laws.IdiomStrings
import Derived.Laws.BytesArg
import Derived.ChangeArms
import Derived.DataReads
import Derived.WideShapes
set_option linter.unusedVariables false
set_option linter.unusedSimpArgs false
set_option linter.unusedSectionVars false
namespace Go.Gh
section
open Go.RowKit
variable {Pg : Program} [Kn Pg] {E : Env Pg} {C : Cx E} {σ : Sg E} {a : Act} {w w' : World} {π π' : PM} {ρ ρ' : RM} {S S' : Nat → Prop} {r : Option Nat}
def aAO (Pg : Program) [Kn Pg] (f : FuncId) (args : List G) (xs : List (List Y0)) (tail : Option P) (pan : Bool) : Prop :=
 ∀ (E : Env Pg) (J : Nat → E.α → Prop) (Z : E.α → Prop) (ZP : P → E.α → Prop), (∀ k a x, J k a → xs[k]? = some x → E.Can a x) →
  (∀ k a x b a', J k a → xs[k]? = some x → E.Y a x b a' → match b with | .b true => J (k + 1) a' | .b false => Z a' | .p p => pan = true ∧ ZP p a') →
  ∀ A, J 0 A → bE E f args (aG []) A fun y => (∃ v h' A', y = .ok v h' A' ∧ ((tail = none ∧ J xs.length A') ∨ Z A')) ∨ ∃ p h' A', y = .panic p h' A' ∧ ((tail = some p ∧ J xs.length A') ∨ ZP p A')
structure LSt (C : Cx E) (σ : Sg E) (a : Act) (w : World) (π : PM) (ρ : RM) (S : Nat → Prop) : Prop where
 size : a.tmps.size = C.N
 vals : ∀ t, aK π ρ E.yv (σ.fr t) (a.tmps.getD t undef)
 defs : rM π ρ E.yv σ.df a.defers
 rel : Rel E π ρ σ.h σ.A S w
 step : ∀ j, j < C.lim → fK (C.ρ0 j) (ρ j)
 wfr : ∀ t id, (σ.fr t).men id = true → σ.h id ≠ .none
 wfh : ∀ j id, (σ.h j).men id = true → σ.h id ≠ .none
 wfd : ∀ g ∈ σ.df, ∀ id, g.men id = true → σ.h id ≠ .none
theorem St.ls (H : St C σ a w π ρ S) : LSt C σ a w π ρ S := ⟨H.size, H.vals, H.defs, H.rel, H.step, H.wfr, H.wfh, H.wfd⟩
theorem rM.le (h : PM.le π π') {gs : List GD} {ds : List Deferred} {y : Value} (k : rM π ρ y gs ds) : rM π' ρ y gs ds := k.mono h fun _ _ _ _ => .inl rfl
theorem LSt.stable (H : LSt C σ a w π ρ S) (hs : w.heap.size ≤ w'.heap.size) (hsame : ∀ b, Own ρ σ.h S b → w'.heap[b]? = w.heap[b]? ∧ π' b = π b) (hle : PM.le π π')
  (hk : ∀ b o v, π' b o = some v → w'.cell? ⟨b, o, none⟩ = some v) : LSt C σ a w' π' ρ S where
 size := H.size
 vals := fun t => (H.vals t).mono hle fun _ _ => .inl rfl
 defs := H.defs.le hle
 rel := ⟨hk, fun id => (H.rel.objs id).keep hle rfl (fun _ _ => .inl rfl) fun b hb => hsame b (.inr ⟨id, hb⟩), H.rel.apart, H.rel.sep,
  E.stable H.rel.res H.rel.inb hs (fun b hb => hsame b (.inl hb)) hle hk, fun b hb => Nat.lt_of_lt_of_le (H.rel.inb b hb) hs, Kn.mono hle H.rel.gl⟩
 step := H.step
 wfr := H.wfr
 wfh := H.wfh
 wfd := H.wfd
theorem LSt.other (H : LSt C σ a w π ρ S) {l : Nat} {o : Obj} (hl : ¬ Own ρ σ.h S l) (hn : ∀ o, w.heap[l]? = some o → o.isCells = false) : LSt C σ a (w.putObj l o) π ρ S :=
 ⟨H.size, H.vals, H.defs, H.rel.other hl hn, H.step, H.wfr, H.wfh, H.wfd⟩
inductive LS (E : Env Pg) where
 | run (k : Nat) (h : Nat → Ob) (A : E.α)
 | jump (c : Code) (h : Nat → Ob) (A : E.α)
 | dead (p : P) (h : Nat → Ob) (A : E.α)
def Lp (C : Cx E) (σ : Sg E) (a : Act) (bs : List (Nat × Obj)) (S : Nat → Prop) (π : PM) (w : World) : Prop :=
 ∃ ρ S0, LSt C σ a w π ρ S0 ∧ (∀ p ∈ bs, w.heap[p.1]? = some p.2 ∧ ¬ Own ρ σ.h S0 p.1) ∧ (∀ b, S b ↔ (Own ρ σ.h S0 b ∨ ∃ p ∈ bs, p.1 = b))
theorem Lp.stable {bs : List (Nat × Obj)} (H : Lp C σ a bs S π w) (hs : w.heap.size ≤ w'.heap.size) (hsame : ∀ b, S b → w'.heap[b]? = w.heap[b]? ∧ π' b = π b) (hle : PM.le π π')
  (hk : ∀ b o v, π' b o = some v → w'.cell? ⟨b, o, none⟩ = some v) : Lp C σ a bs S π' w' := by
 obtain ⟨ρ, S0, H, h1, h2⟩ := H
 exact ⟨ρ, S0, H.stable hs (fun b hb => hsame b ((h2 b).2 (.inl hb))) hle hk, fun p hp => ⟨(hsame p.1 ((h2 _).2 (.inr ⟨p, hp, rfl⟩))).1.trans (h1 p hp).1, (h1 p hp).2⟩, h2⟩
def aBU : (Nat → G) → List Nat → List P → Nat → G
 | fr, p :: ps, x :: xs => aBU (upd fr p (.p x)) ps xs
 | fr, _, _ => fr
theorem aIz {N : Nat} : ∀ {ps : List Nat} {x : List P} {vs : List Value} {fr : Nat → G} {tmps : Array Value}, aU π x vs → tmps.size = N → (∀ p ∈ ps, p < N) → (∀ t, aK π ρ E.yv (fr t) (tmps.getD t undef)) →
  (∀ t, aK π ρ E.yv (aBU fr ps x t) (((ps.zip vs).foldl (fun t (p, v) => t.setIfInBounds p v) tmps).getD t undef)) ∧ ((ps.zip vs).foldl (fun t (p, v) => t.setIfInBounds p v) tmps).size = N
 | [], x, vs, fr, tmps, _, hN, _, hv => by cases x <;> exact ⟨hv, hN⟩
 | p :: ps, [], vs, fr, tmps, hx, hN, _, hv => by
  simp only [aU] at hx; subst hx
  exact ⟨hv, hN⟩
 | p :: ps, x :: xs, vs, fr, tmps, hx, hN, hp, hv => by
  simp only [aU] at hx
  obtain ⟨v, vs', rfl, h1, h2⟩ := hx
  simp only [List.zip_cons_cons, List.foldl_cons, aBU]
  refine aIz h2 (by simpa using hN) (fun q hq => hp q (by simp [hq])) fun t => ?_
  have hpt := hp p (by simp)
  simp only [upd]
  by_cases e : t = p
  ·subst e
   rw [if_pos rfl]
   simp [Array.getD, hN, hpt]
   simpa only [aK] using h1
  ·rw [if_neg e]
   simp only [Array.getD_eq_getD_getElem?, Array.getElem?_setIfInBounds_ne (Ne.symm e)]
   have := hv t
   rwa [Array.getD_eq_getD_getElem?] at this
theorem aF3 {id : Nat} : ∀ {ps : List Nat} {x : List P} {fr : Nat → G} {t : Nat}, (aBU fr ps x t).men id = true → ∃ t, (fr t).men id = true
 | [], x, fr, t, h => by cases x <;> exact ⟨t, h⟩
 | p :: ps, [], fr, t, h => ⟨t, h⟩
 | p :: ps, x :: xs, fr, t, h => by
  obtain ⟨t, h⟩ := aF3 (ps := ps) h
  simp only [upd] at h
  split at h
  ·simp [G.men] at h
  ·exact ⟨t, h⟩
def jmp : GE → Option Code
 | .ret => some .ret
 | .exit i => some (.exit i)
 | .goto t => some (.goto t)
 | _ => none
def aNU {E2 : Env Pg} (C2 : Cx E2) (I : (Nat → Ob) → E2.α → Prop) (K : GE → (Nat → Ob) → E2.α → Prop) (KP : P → (Nat → Ob) → E2.α → Prop) : GE → Sg E2 → Prop
 | .normal, σ => ∃ σ3, Le C2 σ σ3 ∧ I σ3.h σ3.A
 | .panic p, σ => σ.df = [] ∧ ∃ h', Sub h' σ.h ∧ KP p h' σ.A
 | e, σ => ∃ σ3, Le C2 σ σ3 ∧ K e σ3.h σ3.A
def aNV (C : Cx E) (lim : Nat) (l : Nat) (body : Code) (I : (Nat → Ob) → E.α → Prop) (K : GE → (Nat → Ob) → E.α → Prop) (KP : P → (Nat → Ob) → E.α → Prop) {E1 : Env Pg} (hα : E1.α = E.α) : GE → Sg E1 → Prop
 | .normal, σ => ∀ (bs : List (Nat × Obj)) (C2 : Cx (E.guard bs)), C2.N = C.N → C2.lim = lim → (∃ r0, (l, Obj.loop r0) ∈ bs) → gwp C2 (some l) body (aNU C2 I K KP) ⟨σ.fr, σ.h, hα ▸ σ.A, σ.df⟩
 | _, _ => False
def xT : List Y0 → List P
 | [] => []
 | .p x :: xs => x :: xT xs
 | .o _ :: xs => xT xs
theorem aAP : ∀ (xs : List P), xT (xs.map Y0.p) = xs
 | [] => rfl
 | x :: xs => by simp only [List.map_cons, xT, aAP xs]
def zP (fr : Nat → G) (ps : List Nat) : List Y0 → Nat → G
 | [.o _] => match ps with | [p] => upd fr p (.ref 95000 0) | _ => fr
 | x => aBU fr ps (xT x)
def qA (h : Nat → Ob) : List Y0 → Nat → Ob
 | [.o cs] => upd h 95000 (.cells (cs.map .p) 0)
 | _ => h
theorem aMj {fr : Nat → G} {ps : List Nat} {xs : List P} : zP fr ps (xs.map Y0.p) = aBU fr ps xs := by
 have : xT (xs.map Y0.p) = xs := aAP xs
 match xs with
 | [] => rfl
 | [x] => rfl
 | x :: y :: xs => simp only [List.map_cons] at this ⊢; simp only [zP, this]
theorem aMk {h : Nat → Ob} {xs : List P} : qA h (xs.map Y0.p) = h := by
 match xs with
 | [] => rfl
 | [x] => rfl
 | x :: y :: xs => rfl
structure Lo (C : Cx E) where
 fr : Nat → G
 df : List GD
 ps : List Nat
 assign : Code
 body : Code
 xs : List (List Y0)
 tail : Option P
 pan : Bool
 lim : Nat
 I : Nat → (Nat → Ob) → E.α → Prop
 K : GE → (Nat → Ob) → E.α → Prop
 KP : P → (Nat → Ob) → E.α → Prop
def Lo.wf {C : Cx E} (L : Lo C) (h : Nat → Ob) : Prop := (∀ t id, (L.fr t).men id = true → h id ≠ .none) ∧ (∀ g ∈ L.df, ∀ id, g.men id = true → h id ≠ .none)
structure Lo.Ok {C : Cx E} (L : Lo C) : Prop where
 limC : C.lim ≤ L.lim
 limOk : L.lim ≤ 90000
 ps : ∀ p ∈ L.ps, p < C.N
 len : ∀ x ∈ L.xs, x.length = L.ps.length
 shp : ∀ x ∈ L.xs, (∃ ys : List P, x = ys.map Y0.p) ∨ ∃ cs, x = [.o cs]
 wfI : ∀ k h A, L.I k h A → L.wf h ∧ ∀ id, h id ≠ .none → id < L.lim
 wfK : ∀ e h A, L.K e h A → L.wf h
 wfP : ∀ p h A, L.KP p h A → L.pan = true ∧ L.wf h
 round : ∀ k h A x, L.I k h A → L.xs[k]? = some x → ∀ (l : Nat) (bs : List (Nat × Obj)) (C1 : Cx (E.guard bs)), C1.N = C.N → C1.lim = L.lim →
  gwp C1 (some l) L.assign (aNV C L.lim l L.body (L.I (k + 1)) L.K L.KP rfl) ⟨zP L.fr L.ps x, qA h x, A, []⟩
theorem cG.shrink {O O' O'' : Nat → Prop} (h : cG O w π O' w' π') (hs : ∀ b, O'' b → O' b) : cG O w π O'' w' π' := ⟨h.size, h.os, h.tape, h.output, h.keep, h.le, fun b hb => h.own b (hs b hb)⟩
theorem kF {h : Nat → Ob} {S0 S1 : Nat → Prop} {bs : List (Nat × Obj)} (hS : ∀ b, S1 b ↔ (S0 b ∨ ∃ p ∈ bs, p.1 = b)) (b : Nat) : Own ρ h S1 b ↔ (Own ρ h S0 b ∨ ∃ p ∈ bs, p.1 = b) := by
 simp only [Own, hS]
 constructor
 ·rintro ((h | h) | h)
  ·exact .inl (.inl h)
  ·exact .inr h
  ·exact .inl (.inr h)
 ·rintro ((h | h) | h)
  ·exact .inl (.inl h)
  ·exact .inr h
  ·exact .inl (.inr h)
variable {L : Lo C}
def gI (fn : FuncId) (tmps : Array Value) (ps : Array Tmp) (assign body : Code) (D : Nat) (st : LoopState) (pe : Option Code) : Loop := { state := st, pending := pe, fn, tmps, params := ps, assign, body, defers := D }
def aEU (ex : Prop) (P : Program) (l : Nat) (R : Ending → World → Prop) : Exit → Act → World → Prop
 | .panic chain, a, w => a.defers = [] ∧ ex ∧ R (.panicked chain) w
 | e, a, w => roundPost P l R e a w
theorem aGS {l : Nat} {f : FuncId} {tmps : Array Value} {assign body : Code} {R : Ending → World → Prop}
  (h : assign.wpIn (MF Pg (some l)) 0 Pg (Exit.then (fun a₁ w₁ => ∃ w₂, (Instr.beginRound l).run Pg w₁ = .ok () w₂ ∧ body.wpIn (MF Pg (some l)) 0 Pg (aEU ((Pg.funcs[f]?).isSome = true) Pg l R) a₁ w₂) (fun _ _ _ => False)) { tmps := tmps, defers := [] } w) :
  RoundIn (MF Pg none) 0 Pg l f tmps assign body w R := by
 refine ⟨trivial, fun c cs hr => ?_⟩
 let b : Frame := { (default : Frame) with fn := f, kind := .normal, roundOf := some l }
 have hb0 : Frame.round l f tmps assign body .normal = b.atR { tmps := tmps, defers := [] } [.code assign, .beginRound, .code body] := by
  simp [Frame.round, Frame.atR, b]
 have hr' : (MF Pg (some l)).room ((c :: cs).length + 1 + 0) := room_wide _
 have hF' : (MF Pg (some l)).fn b.fn := trivial
 obtain ⟨e, a₁, w₁, hq, harr⟩ := h b [.beginRound, .code body] (c :: cs) rfl hF' hr'
 rw [← hb0] at harr
 cases e with
 | normal =>
  obtain ⟨w₂, hbr, hbody⟩ := hq
  have s1 : StepsIn (Machine.fenced Pg (MF Pg (some l))) Pg (lone (b.atR a₁ [.beginRound, .code body]) (c :: cs) w₁) (lone (b.atR a₁ [.code body]) (c :: cs) w₂) :=
   .one (fenced_calm (fr := b.atR a₁ [.beginRound, .code body]) hF' hr' rfl) (stepR_beginRound rfl hbr)
  obtain ⟨e₂, a₂, w₃, hq₂, harr₂⟩ := hbody b [] (c :: cs) rfl hF' hr'
  cases e₂ with
  | normal =>
   obtain ⟨v, w₄, hend, hR⟩ := hq₂
   exact ⟨.returned v, w₄, hR, (StepsIn.trans harr s1).trans (StepsIn.trans harr₂ (.one (fenced_calm (fr := b.atR a₂ []) hF' hr' rfl) (stepR_round_end rfl rfl hend)))⟩
  | ret =>
   obtain ⟨v, w₄, hend, hR⟩ := hq₂
   obtain ⟨k₁, hs⟩ := harr₂.2 rfl
   exact ⟨.returned v, w₄, hR, (StepsIn.trans harr s1).trans (StepsIn.trans hs (.one (fenced_calm (fr := b.atR a₂ (.code .ret :: k₁)) hF' hr' rfl) (stepR_round_ret rfl rfl hend)))⟩
  | exit id =>
   obtain ⟨v, w₄, hend, hR⟩ := hq₂
   obtain ⟨k₁, hk, hs⟩ := harr₂.2 rfl rfl
   exact ⟨.returned v, w₄, hR, (StepsIn.trans harr s1).trans (StepsIn.trans hs (.one (fenced_calm (fr := b.atR a₂ (.code (.exit id) :: k₁)) hF' hr' rfl) (stepR_round_exit rfl rfl hk hend)))⟩
  | goto t =>
   obtain ⟨v, w₄, hend, hR⟩ := hq₂
   obtain ⟨k₁, hk, hs⟩ := harr₂.2 rfl rfl
   exact ⟨.returned v, w₄, hR, (StepsIn.trans harr s1).trans (StepsIn.trans hs (.one (fenced_calm (fr := b.atR a₂ (.code (.goto t) :: k₁)) hF' hr' rfl) (stepR_round_goto rfl rfl hk hend)))⟩
  | panic chain =>
   obtain ⟨hd, hfn, hR⟩ := hq₂
   obtain ⟨todo, hs⟩ := harr₂
   obtain ⟨fn, hfn⟩ := Option.isSome_iff_exists.1 hfn
   have hl : ({ b.atR a₂ todo with mode := .panicking chain } : Frame).leaving Pg w₃ (.panicked chain) := ⟨rfl, hd, fn, hfn⟩
   exact ⟨.panicked chain, w₃, hR, (StepsIn.trans harr s1).trans (StepsIn.trans hs (.one (fenced_leaving hF' hr' hl) (step_leave_panicked hl)))⟩
  | outgrown => exact hq₂.elim
 | exit id => exact hq.elim
 | goto t => exact hq.elim
 | ret => exact hq.elim
 | panic chain => exact hq.elim
 | outgrown => exact hq.elim
theorem Rel.give {h : Nat → Ob} {A : E.α} (R : Rel E π ρ h A S w) {d b : Nat} {us : List Value} {e : TypeId} {cs : List P} (hd : h d = .none) (hdm : ∀ j, (h j).men d = false) (hb : w.heap[b]? = some (.cells ⟨us⟩ e (0, 0))) (hcs : aU π cs us) (h1 : ∀ c ∈ cs, c.one = true)
  (hn : ¬ Own ρ h S b) (hun : ∀ o, π b o = none) : Rel E π (upd ρ d ⟨b, undef, 0⟩) (upd h d (.cells (cs.map .p) 0)) A S w := by
 have hl : ∀ j, j ≠ d → bL (upd ρ d ⟨b, undef, 0⟩) j (upd h d (.cells (cs.map .p) 0) j) = bL ρ j (h j) := fun j hj => by
  rw [aZ _ _ hj]
  cases h j <;> simp [bL, aZ _ _ hj]
 have hld : bL (upd ρ d ⟨b, undef, 0⟩) d (upd h d (.cells (cs.map .p) 0) d) = some b := by simp [aV, bL]
 refine ⟨R.know, fun j => ?_, fun i j b' hij hi hj => ?_, fun i b' hi => ?_, R.res, R.inb, R.gl⟩
 ·by_cases hj : j = d
  ·subst hj; rw [aV]
   refine ⟨us, e, by rw [aV]; exact hb, aQ.of_PRels hcs, fun c hc => ?_, fun j u hj _ => by omega, fun j _ => by rw [aV]; exact hun j⟩
   obtain ⟨p, hp, rfl⟩ := List.mem_map.1 hc
   exact h1 p hp
  ·rw [aZ _ _ hj]
   refine (R.objs j).keep (PM.le_refl _) (aZ _ _ hj) (fun i hm => ?_) fun b hb => ⟨rfl, rfl⟩
   by_cases e : i = d
   ·subst e; rw [hdm j] at hm; cases hm
   ·rw [aZ _ _ e]; exact .inl rfl
 ·by_cases hi' : i = d
  ·subst hi'
   rw [hld] at hi; cases hi
   rw [hl j (Ne.symm hij)] at hj
   exact hn (.inr ⟨j, hj⟩)
  ·rw [hl i hi'] at hi
   by_cases hj' : j = d
   ·subst hj'
    rw [hld] at hj; cases hj
    exact hn (.inr ⟨i, hi⟩)
   ·rw [hl j hj'] at hj
    exact R.apart i j b' hij hi hj
 ·by_cases hi' : i = d
  ·subst hi'
   rw [hld] at hi; cases hi
   exact fun hs => hn (.inl hs)
  ·rw [hl i hi'] at hi
   exact R.sep i b' hi
theorem aDH {ps : List Nat} {x : List Y0} {vs : List Value} {B : List Nat} {fr : Nat → G} {h : Nat → Ob} {A : E.α} {tmps : Array Value} {N : Nat} (R : Rel E π ρ h A S w) (hshp : (∃ ys : List P, x = ys.map Y0.p) ∨ ∃ cs, x = [.o cs]) (hlen : x.length = ps.length) (hv : iB π w x vs B)
  (hB : ∀ b ∈ B, ¬ Own ρ h S b ∧ ∀ o, π b o = none) (hN : tmps.size = N) (hp : ∀ p ∈ ps, p < N) (hvals : ∀ t, aK π ρ E.yv (fr t) (tmps.getD t undef)) (hh : ∀ id, h id ≠ .none → id < 90000) (wfr : ∀ t id, (fr t).men id = true → h id ≠ .none) (wfh : ∀ j id, (h j).men id = true → h id ≠ .none) :
  ∃ ρ1, Rel E π ρ1 (qA h x) A S w ∧ (∀ j, j < 90000 → ρ1 j = ρ j) ∧ (∀ t, aK π ρ1 E.yv (zP fr ps x t) (((ps.zip vs).foldl (fun t (p, v) => t.setIfInBounds p v) tmps).getD t undef)) ∧ ((ps.zip vs).foldl (fun t (p, v) => t.setIfInBounds p v) tmps).size = N ∧
   (∀ t id, (zP fr ps x t).men id = true → qA h x id ≠ .none) ∧ (∀ j id, (qA h x j).men id = true → qA h x id ≠ .none) ∧ (∀ b, Own ρ1 (qA h x) S b → Own ρ h S b ∨ b ∈ B) ∧ (∀ b, Own ρ h S b → Own ρ1 (qA h x) S b) := by
 rcases hshp with ⟨ys, rfl⟩ | ⟨cs, rfl⟩
 ·have hv' : aU π ys vs := by
   clear hlen hB
   induction ys generalizing vs B with
   | nil => simp only [List.map_nil, iB] at hv; simp only [aU]; exact hv.1
   | cons y ys ih =>
    simp only [List.map_cons, iB] at hv
    obtain ⟨v, vs', rfl, h1, h2⟩ := hv
    simp only [aU]
    exact ⟨v, vs', rfl, h1, ih h2⟩
  rw [aMk, aMj]
  have hpar := aIz (E := E) (ρ := ρ) (ps := ps) hv' hN hp hvals
  exact ⟨ρ, R, fun _ _ => rfl, hpar.1, hpar.2, fun t id hm => by obtain ⟨t, hm⟩ := aF3 hm; exact wfr t id hm, wfh, fun b hb => .inl hb, fun b hb => hb⟩
 ·simp only [iB] at hv
  obtain ⟨b, vs', B', us, e, rfl, rfl, hcell, hcs, h1, rfl, rfl⟩ := hv
  obtain ⟨p, rfl⟩ : ∃ p, ps = [p] := by
   match ps, hlen with
   | [p], _ => exact ⟨p, rfl⟩
  have hd : h 95000 = .none := by
   cases hx : h 95000 with
   | none => rfl
   | _ => exact absurd (hh 95000 (by rw [hx]; simp)) (by omega)
  have hdm : ∀ j, (h j).men 95000 = false := fun j => by
   cases hm : (h j).men 95000 with
   | false => rfl
   | true => exact absurd hd (wfh j _ hm)
  have hdf : ∀ t, (fr t).men 95000 = false := fun t => by
   cases hm : (fr t).men 95000 with
   | false => rfl
   | true => exact absurd hd (wfr t _ hm)
  obtain ⟨hn, hun⟩ := hB b (by simp)
  have R1 := R.give hd hdm hcell hcs h1 hn hun
  have hpN := hp p (by simp)
  have hne : ∀ id, h id ≠ .none → upd h 95000 (.cells (cs.map .p) 0) id ≠ .none := fun id hid => by
   simp only [upd]; split
   ·simp
   ·exact hid
  refine ⟨upd ρ 95000 ⟨b, undef, 0⟩, R1, fun j hj => aZ _ _ (by omega), fun t => ?_, by simpa using hN, fun t id hm => ?_, fun j id hm => ?_, fun b' hb' => ?_, fun b' hb' => ?_⟩
  ·simp only [List.zip_cons_cons, List.zip_nil_right, List.foldl_cons, List.foldl_nil, zP, upd]
   by_cases e : t = p
   ·subst e
    rw [if_pos rfl]
    simp [Array.getD, hN, hpN, aK, upd]
   ·rw [if_neg e]
    simp only [Array.getD_eq_getD_getElem?, Array.getElem?_setIfInBounds_ne (Ne.symm e)]
    have := hvals t
    rw [Array.getD_eq_getD_getElem?] at this
    exact this.mono (PM.le_refl _) fun id hm => .inl (aZ _ _ fun e => by subst e; rw [hdf t] at hm; cases hm)
  ·simp only [zP, upd] at hm
   split at hm
   ·simp only [G.men, beq_iff_eq] at hm
    subst hm
    simp [qA, upd]
   ·exact hne id (wfr t id hm)
  ·simp only [qA, upd] at hm
   split at hm
   ·simp only [Ob.men] at hm
    rw [gO] at hm; cases hm
   ·exact hne id (wfh j id hm)
  ·rcases hb' with hb' | ⟨i, hb'⟩
   ·exact .inl (.inl hb')
   ·by_cases e : i = 95000
    ·subst e
     simp only [qA, aV, bL, Option.some.injEq] at hb'
     subst hb'; exact .inr (by simp)
    ·refine .inl (.inr ⟨i, ?_⟩)
     simp only [qA, aZ _ _ e] at hb'
     cases ho : h i <;> rw [ho] at hb' <;> simp only [bL, aZ _ _ e, reduceCtorEq] at hb' ⊢ <;> exact hb'
  ·rcases hb' with hb' | ⟨i, hb'⟩
   ·exact .inl hb'
   ·have e : i ≠ 95000 := fun e => by subst e; rw [hd] at hb'; simp [bL] at hb'
    refine .inr ⟨i, ?_⟩
    simp only [qA, aZ _ _ e]
    cases ho : h i <;> rw [ho] at hb' <;> simp only [bL, aZ _ _ e, reduceCtorEq] at hb' ⊢ <;> exact hb'
theorem aIA (ok : L.Ok) {k : Nat} {h : Nat → Ob} {A : E.α} {x : List Y0} {vs : List Value} {B : List Nat} (hI : L.I k h A) (hx : L.xs[k]? = some x) {l : Nat} {bs : List (Nat × Obj)} {fn : FuncId} {D : Nat} {ps : Array Tmp} (hps : ps.toList = L.ps)
  (hfn : L.pan = true → (Pg.funcs[fn]?).isSome = true) (hlb : ∀ p ∈ bs, p.1 ≠ l) (H : Lp C ⟨L.fr, h, A, L.df⟩ a ((l, .loop (gI fn a.tmps ps L.assign L.body D .ready none)) :: bs) S π w) (hv : iB π w x vs B) (hB : uV S π w B) :
  RoundIn (MF Pg none) 0 Pg l fn ((ps.zip ⟨vs⟩).foldl (fun t (p, v) => t.setIfInBounds p v) a.tmps) L.assign L.body w fun e w' => ∃ (b : YR) (s' : LS E) (S' : Nat → Prop) (π' : PM), (match b with | .b b => e = .returned (.bool b) | .p p => ∃ v, e = .panicked [{ v, recovered := false }] ∧ aS π' p v) ∧
   (match b, s' with
    | .b true, .run k' h' A' => k' = k + 1 ∧ L.I (k + 1) h' A' ∧ Lp C ⟨L.fr, h', A', L.df⟩ a ((l, .loop (gI fn a.tmps ps L.assign L.body D .ready none)) :: bs) S' π' w'
    | .b false, .jump c h' A' => ∃ e, jmp e = some c ∧ L.K e h' A' ∧ Lp C ⟨L.fr, h', A', L.df⟩ a ((l, .loop (gI fn a.tmps ps L.assign L.body D .done (some c))) :: bs) S' π' w'
    | .p p, .dead p' h' A' => p' = p ∧ L.KP p h' A' ∧ Lp C ⟨L.fr, h', A', L.df⟩ a ((l, .loop (gI fn a.tmps ps L.assign L.body D .busy none)) :: bs) S' π' w'
    | _, _ => False) ∧ (∀ b o v, π' b o = some v → w'.cell? ⟨b, o, none⟩ = some v) ∧ (∀ b, S' b → b < w'.heap.size) ∧ cG (fun b => S b ∨ b ∈ B) w π S' w' π' := by
 obtain ⟨ρ, S0, H, hb, hS⟩ := H
 obtain ⟨wf1, hlim⟩ := ok.wfI k h A hI
 let o1 := gI fn a.tmps ps L.assign L.body D .ready none
 let o2 := gI fn a.tmps ps L.assign L.body D .busy none
 have hxm := List.mem_of_getElem? hx
 have hBo : ∀ b ∈ B, ¬ Own ρ h S0 b ∧ ∀ o, π b o = none := fun b hb' => ⟨fun ho => hB.out b hb' ((hS b).2 (.inl ho)), hB.unk b hb'⟩
 obtain ⟨ρ1, R0, hρ1, hpv, hps2, hw1, hw2, hown1, hown2⟩ := aDH H.rel (ok.shp x hxm) (ok.len x hxm) hv hBo H.size ok.ps H.vals (fun id hid => Nat.lt_of_lt_of_le (hlim id hid) ok.limOk) H.wfr H.wfh
 have hbp : ∀ p ∈ (l, Obj.loop o1) :: bs, w.heap[p.1]? = some p.2 ∧ ¬ Own ρ1 (qA h x) S0 p.1 := fun p hp => ⟨(hb p hp).1, fun ho => by
  rcases hown1 _ ho with h1 | h1
  ·exact (hb p hp).2 h1
  ·exact hB.out _ h1 ((hS _).2 (.inr ⟨p, hp, rfl⟩))⟩
 have hR1 := aDF R0 hbp
 have htm : (ps.zip ⟨vs⟩).foldl (fun t (p, v) => t.setIfInBounds p v) a.tmps = (L.ps.zip vs).foldl (fun t (p, v) => t.setIfInBounds p v) a.tmps := by
  rw [← hps, ← Array.foldl_toList]
  simp
 refine aGS ?_
 let C1 : Cx (E.guard ((l, .loop o1) :: bs)) := ⟨Own ρ1 (qA h x) fun b => S0 b ∨ ∃ p ∈ (l, Obj.loop o1) :: bs, p.1 = b, w, π, ρ1, C.N, L.lim, ok.limOk⟩
 have hSt1 : St C1 ⟨zP L.fr L.ps x, qA h x, A, []⟩ { tmps := (ps.zip ⟨vs⟩).foldl (fun t (p, v) => t.setIfInBounds p v) a.tmps, defers := [] } w π ρ1 (fun b => S0 b ∨ ∃ p ∈ (l, Obj.loop o1) :: bs, p.1 = b) :=
  ⟨htm ▸ hps2, fun t => htm ▸ hpv t, rfl, hR1, cG.refl _ _ _, fun _ _ => .inl rfl, hw1, hw2, fun g hg => by cases hg⟩
 refine wpIn_mono ((ok.round k h A x hI hx l _ C1 rfl rfl).run _ _ ⟨π, ρ1, _, hSt1⟩) fun e1 a1 w1 k1 => ?_
 cases e1 with
 | panic ch => obtain ⟨_, _, _, _, _, _, _, _, _, hq⟩ := k1; exact hq.elim
 | outgrown => exact k1
 | exit id => obtain ⟨_, _, hq⟩ := k1; exact hq.elim
 | goto id => obtain ⟨_, _, hq⟩ := k1; exact hq.elim
 | ret => obtain ⟨_, _, hq⟩ := k1; exact hq.elim
 | normal =>
  obtain ⟨σ1, ⟨π1, ρ2, S1, H1⟩, hq⟩ := k1
  obtain ⟨S01, R1, hb1, hS1⟩ := xS H1.rel
  have hl1 := (hb1 _ (List.mem_cons_self ..)).1
  have hlt1 := (Array.getElem?_eq_some_iff.1 hl1).1
  have hnc1 : ∀ o', w1.heap[l]? = some o' → o'.isCells = false := fun o' ho => by rw [hl1] at ho; cases ho; rfl
  refine ⟨_, run_beginRound hl1 rfl, ?_⟩
  let w2 := w1.putObj l (.loop o2)
  have hl2 : w2.heap[l]? = some (.loop o2) := World.putObj_heap_same hlt1
  have R2 : Rel E π1 ρ2 σ1.h σ1.A S01 w2 := R1.other (hb1 _ (List.mem_cons_self ..)).2 hnc1
  have hb2 : ∀ p ∈ (l, Obj.loop o2) :: bs, w2.heap[p.1]? = some p.2 ∧ ¬ Own ρ2 σ1.h S01 p.1 := fun p hp => by
   rcases List.mem_cons.1 hp with rfl | hp
   ·exact ⟨hl2, (hb1 _ (List.mem_cons_self ..)).2⟩
   ·have := hb1 p (List.mem_cons_of_mem _ hp)
    exact ⟨(World.putObj_heap_other (hlb p hp)).trans this.1, this.2⟩
  let S2 : Nat → Prop := fun b => S01 b ∨ ∃ p ∈ (l, Obj.loop o2) :: bs, p.1 = b
  let C2 : Cx (E.guard ((l, .loop o2) :: bs)) := ⟨Own ρ2 σ1.h S2, w2, π1, ρ2, C.N, L.lim, ok.limOk⟩
  have hSt2 : St C2 ⟨σ1.fr, σ1.h, σ1.A, σ1.df⟩ a1 w2 π1 ρ2 S2 := ⟨H1.size, H1.vals, H1.defs, aDF R2 hb2, cG.refl _ _ _, fun _ _ => .inl rfl, H1.wfr, H1.wfh, H1.wfd⟩
  have hsets : ∀ b, (∃ p ∈ (l, Obj.loop o1) :: bs, p.1 = b) ↔ ∃ p ∈ (l, Obj.loop o2) :: bs, p.1 = b := fun b => by simp
  have hT12 : cG (fun b => S b ∨ b ∈ B) w π (Own ρ2 σ1.h S2) w2 π1 := by
   have t1 : cG (fun b => S b ∨ b ∈ B) w π (Own ρ2 σ1.h S1) w1 π1 := H1.trans.weaken fun b hb' => by
    rcases (kF (fun _ => Iff.rfl) b).1 hb' with h1 | h1
    ·exact (hown1 b h1).imp (fun h => (hS b).2 (.inl h)) id
    ·exact .inl ((hS b).2 (.inr h1))
   have t2 : cG (Own ρ2 σ1.h S1) w1 π1 (Own ρ2 σ1.h S1) w2 π1 := tW ((kF hS1 l).2 (.inr ⟨_, List.mem_cons_self .., rfl⟩))
   refine (t1.trans t2).shrink fun b hb' => (kF hS1 b).2 ?_
   exact ((kF (S1 := S2) (fun _ => Iff.rfl) b).1 hb').imp id (hsets b).2
  have fin : ∀ (jump : Option Code) (σ3 : Sg (E.guard ((l, .loop o2) :: bs))) (a3 : Act) (w3 : World), Holds C2 σ3 a3 w3 → L.wf σ3.h →
    (Instr.endRound l jump).run Pg w3 = .ok (.bool jump.isNone) (w3.putObj l (.loop (gI fn a.tmps ps L.assign L.body D (if jump.isNone then .ready else .done) jump))) ∧ ∃ S' π',
     Lp C ⟨L.fr, σ3.h, σ3.A, L.df⟩ a ((l, .loop (gI fn a.tmps ps L.assign L.body D (if jump.isNone then .ready else .done) jump)) :: bs) S' π' (w3.putObj l (.loop (gI fn a.tmps ps L.assign L.body D (if jump.isNone then .ready else .done) jump))) ∧
     (∀ b o v, π' b o = some v → (w3.putObj l (.loop (gI fn a.tmps ps L.assign L.body D (if jump.isNone then .ready else .done) jump))).cell? ⟨b, o, none⟩ = some v) ∧
     (∀ b, S' b → b < (w3.putObj l (.loop (gI fn a.tmps ps L.assign L.body D (if jump.isNone then .ready else .done) jump))).heap.size) ∧
     cG (fun b => S b ∨ b ∈ B) w π S' (w3.putObj l (.loop (gI fn a.tmps ps L.assign L.body D (if jump.isNone then .ready else .done) jump))) π' := fun jump σ3 a3 w3 ⟨π3, ρ3, S3, H3⟩ hwf3 => by
   obtain ⟨S03, R3, hb3, hS3⟩ := xS H3.rel
   have hl3 := (hb3 _ (List.mem_cons_self ..)).1
   have hlt3 := (Array.getElem?_eq_some_iff.1 hl3).1
   have hnc3 : ∀ o', w3.heap[l]? = some o' → o'.isCells = false := fun o' ho => by rw [hl3] at ho; cases ho; rfl
   have hle : PM.le π π3 := PM.le_trans H1.trans.le H3.trans.le
   have hst : ∀ j, j < L.lim → fK (ρ j) (ρ3 j) := fun j hj => by have h1 := H1.step j hj; rw [show C1.ρ0 j = ρ j from hρ1 j (Nat.lt_of_lt_of_le hj ok.limOk)] at h1; exact h1.trans (H3.step j hj)
   let o4 := gI fn a.tmps ps L.assign L.body D (if jump.isNone then .ready else .done) jump
   let S4 : Nat → Prop := fun b => Own ρ3 σ3.h S03 b ∨ ∃ p ∈ (l, Obj.loop o4) :: bs, p.1 = b
   have hLS : LSt C ⟨L.fr, σ3.h, σ3.A, L.df⟩ a w3 π3 ρ3 S03 :=
    ⟨H.size, fun t => (H.vals t).mono hle fun id hm => hst id (hlim id (H.wfr t id hm)), H.defs.mono hle fun id g hg hm => hst id (hlim id (H.wfd g hg id hm)), R3,
     fun j hj => (H.step j hj).trans (hst j (Nat.lt_of_lt_of_le hj ok.limC)), hwf3.1, H3.wfh, hwf3.2⟩
   have hb4 : ∀ p ∈ (l, Obj.loop o4) :: bs, (w3.putObj l (.loop o4)).heap[p.1]? = some p.2 ∧ ¬ Own ρ3 σ3.h S03 p.1 := fun p hp => by
    rcases List.mem_cons.1 hp with rfl | hp
    ·exact ⟨World.putObj_heap_same hlt3, (hb3 _ (List.mem_cons_self ..)).2⟩
    ·have := hb3 p (List.mem_cons_of_mem _ hp)
     exact ⟨(World.putObj_heap_other (hlb p hp)).trans this.1, this.2⟩
   refine ⟨run_endRound jump hl3, S4, π3, ⟨ρ3, S03, hLS.other (hb3 _ (List.mem_cons_self ..)).2 hnc3, hb4, fun _ => Iff.rfl⟩, wD R3.know hnc3, fun b hb' => ?_, ?_⟩
   ·rcases hb' with (hb' | ⟨id, hb'⟩) | ⟨p, hp, rfl⟩
    ·simpa using R3.inb b hb'
    ·simpa using (R3.objs id).lt hb'
    ·exact (Array.getElem?_eq_some_iff.1 (hb4 p hp).1).1
   ·have t3 : cG (fun b => S b ∨ b ∈ B) w π (Own ρ3 σ3.h S3) w3 π3 := hT12.trans H3.trans
    have t4 : cG (Own ρ3 σ3.h S3) w3 π3 (Own ρ3 σ3.h S3) (w3.putObj l (.loop o4)) π3 := tW ((kF hS3 l).2 (.inr ⟨_, List.mem_cons_self .., rfl⟩))
    refine (t3.trans t4).shrink fun b hb' => (kF hS3 b).2 (hb'.imp id fun ⟨p, hp, e⟩ => ?_)
    rcases List.mem_cons.1 hp with rfl | hp
    ·exact ⟨_, List.mem_cons_self .., e⟩
    ·exact ⟨p, List.mem_cons_of_mem _ hp, e⟩
  refine wpIn_mono ((hq _ C2 rfl rfl ⟨_, List.mem_cons_self ..⟩).run a1 w2 ⟨π1, ρ2, S2, hSt2⟩) fun e3 a3 w3 k3 => ?_
  have jumps : ∀ (e : GE) (c : Code), jmp e = some c → (∃ σ2, Holds C2 σ2 a3 w3 ∧ ∃ σ3, Le C2 σ2 σ3 ∧ L.K e σ3.h σ3.A) → ∃ v w4, (Instr.endRound l (some c)).run Pg w3 = .ok v w4 ∧ ∃ (b : YR) (s' : LS E) (S' : Nat → Prop) (π' : PM), (match b with | .b b => Ending.returned v = .returned (.bool b) | .p p => ∃ v', Ending.returned v = .panicked [{ v := v', recovered := false }] ∧ aS π' p v') ∧
    (match b, s' with
     | .b true, .run k' h' A' => k' = k + 1 ∧ L.I (k + 1) h' A' ∧ Lp C ⟨L.fr, h', A', L.df⟩ a ((l, .loop (gI fn a.tmps ps L.assign L.body D .ready none)) :: bs) S' π' w4
     | .b false, .jump c h' A' => ∃ e, jmp e = some c ∧ L.K e h' A' ∧ Lp C ⟨L.fr, h', A', L.df⟩ a ((l, .loop (gI fn a.tmps ps L.assign L.body D .done (some c))) :: bs) S' π' w4
     | .p p, .dead p' h' A' => p' = p ∧ L.KP p h' A' ∧ Lp C ⟨L.fr, h', A', L.df⟩ a ((l, .loop (gI fn a.tmps ps L.assign L.body D .busy none)) :: bs) S' π' w4
     | _, _ => False) ∧ (∀ b o v, π' b o = some v → w4.cell? ⟨b, o, none⟩ = some v) ∧ (∀ b, S' b → b < w4.heap.size) ∧ cG (fun b => S b ∨ b ∈ B) w π S' w4 π' := fun e c hj ⟨σ2, H2, σ3, hle, hK⟩ => by
   obtain ⟨hr, S', π', f1, f2, f3, f4⟩ := fin (some c) σ3 a3 w3 (hle _ _ H2) (ok.wfK _ _ _ hK)
   exact ⟨_, _, hr, .b false, .jump c σ3.h σ3.A, S', π', rfl, ⟨e, hj, hK, f1⟩, f2, f3, f4⟩
  cases e3 with
  | panic ch =>
   obtain ⟨σ3, p, v, π3, ρ3, S3, hch, hpv3, H3, hdf3, h', hsub, hK⟩ := k3
   obtain ⟨S03, R3, hb3, hS3⟩ := xS H3.rel
   have hwf3 := (ok.wfP _ _ _ hK).2
   have hle : PM.le π π3 := PM.le_trans H1.trans.le H3.trans.le
   have hst : ∀ j, j < L.lim → fK (ρ j) (ρ3 j) := fun j hj => by have h1 := H1.step j hj; rw [show C1.ρ0 j = ρ j from hρ1 j (Nat.lt_of_lt_of_le hj ok.limOk)] at h1; exact h1.trans (H3.step j hj)
   have hdd : a3.defers = [] := by have := H3.defs; rw [hdf3] at this; exact this
   let S4 : Nat → Prop := fun b => Own ρ3 h' S03 b ∨ ∃ p ∈ (l, Obj.loop o2) :: bs, p.1 = b
   have hLS : LSt C ⟨L.fr, h', σ3.A, L.df⟩ a w3 π3 ρ3 S03 :=
    ⟨H.size, fun t => (H.vals t).mono hle fun id hm => hst id (hlim id (H.wfr t id hm)), H.defs.mono hle fun id g hg hm => hst id (hlim id (H.wfd g hg id hm)), R3.sub hsub,
     fun j hj => (H.step j hj).trans (hst j (Nat.lt_of_lt_of_le hj ok.limC)), hwf3.1, hsub.wf, hwf3.2⟩
   refine ⟨hdd, hfn (ok.wfP _ _ _ hK).1, .p p, .dead p h' σ3.A, S4, π3, ⟨v, by rw [hch], hpv3⟩, ⟨rfl, hK, ρ3, S03, hLS, fun q hq => ⟨(hb3 q hq).1, fun ho => (hb3 q hq).2 (Own.sub hsub ho)⟩, fun _ => Iff.rfl⟩, R3.know, fun b hb' => ?_, ?_⟩
   ·rcases hb' with (hb' | ⟨id, hb'⟩) | ⟨p, hp, rfl⟩
    ·exact R3.inb b hb'
    ·exact ((R3.sub hsub).objs id).lt hb'
    ·exact (Array.getElem?_eq_some_iff.1 (hb3 p hp).1).1
   ·refine (hT12.trans H3.trans).shrink fun b hb' => (kF hS3 b).2 (hb'.imp (fun h => Own.sub hsub h) id)
  | outgrown => exact k3
  | exit id => exact jumps (.exit id) _ rfl k3
  | goto id => exact jumps (.goto id) _ rfl k3
  | ret => exact jumps .ret _ rfl k3
  | normal =>
   obtain ⟨σ2, H2, σ3, hle, hI3⟩ := k3
   obtain ⟨hr, S', π', f1, f2, f3, f4⟩ := fin none σ3 a3 w3 (hle _ _ H2) (ok.wfI _ _ _ hI3).1
   exact ⟨_, _, hr, .b true, .run (k + 1) σ3.h σ3.A, S', π', rfl, ⟨rfl, hI3, f1⟩, f2, f3, f4⟩
end
section
open Go.RowKit
variable {Pg : Program} [Kn Pg] {E : Env Pg} {C : Cx E} {σ : Sg E} {a : Act} {w w' : World} {π π' : PM} {ρ ρ' : RM} {S S' : Nat → Prop} {r : Option Nat} {L : Lo C}
def aO4 (L : Lo C) (a : Act) (l : Nat) (mk : LoopState → Option Code → Loop) (bs : List (Nat × Obj)) : LS E → (Nat → Prop) → PM → World → Prop
 | .run _ h A, S, π, w => Lp C ⟨L.fr, h, A, L.df⟩ a ((l, .loop (mk .ready none)) :: bs) S π w
 | .jump c h A, S, π, w => Lp C ⟨L.fr, h, A, L.df⟩ a ((l, .loop (mk .done (some c))) :: bs) S π w
 | .dead _ h A, S, π, w => Lp C ⟨L.fr, h, A, L.df⟩ a ((l, .loop (mk .busy none)) :: bs) S π w
def aO5 (L : Lo C) : LS E → List Y0 → Prop
 | .run k h A, x => L.I k h A ∧ L.xs[k]? = some x
 | _, _ => False
def LY (L : Lo C) : LS E → List Y0 → YR → LS E → Prop
 | .run k _ _, _, .b true, .run k' h' A' => k' = k + 1 ∧ L.I (k + 1) h' A'
 | .run _ _ _, _, .b false, .jump c h' A' => ∃ e, jmp e = some c ∧ L.K e h' A'
 | .run _ _ _, _, .p p, .dead p' h' A' => p' = p ∧ L.KP p h' A'
 | _, _, _, _ => False
def aNW (ok : L.Ok) (a : Act) (l : Nat) (fn : FuncId) (hfn : L.pan = true → (Pg.funcs[fn]?).isSome = true) (D : Nat) {ps : Array Tmp} (hps : ps.toList = L.ps) (bs : List (Nat × Obj)) (hlb : ∀ p ∈ bs, p.1 ≠ l) : Env Pg where
 α := LS E
 yv := .func (.yield l) #[] #[]
 one := rfl
 Res := aO4 L a l (gI fn a.tmps ps L.assign L.body D) bs
 Can := aO5 L
 Y := LY L
 stable := fun {s S π w w' π'} H _ hs hsame hle hk => by
  cases s with
  | run k h A => exact Lp.stable H hs hsame hle hk
  | jump c h A => exact Lp.stable H hs hsame hle hk
  | dead p h A => exact Lp.stable H hs hsame hle hk
 ycall := fun {s S π w args vs B} hc H hin hk hv hB => by
  cases s with
  | jump c h A => exact hc.elim
  | dead p h A => exact hc.elim
  | run k h A =>
   obtain ⟨hI, hx⟩ := hc
   have hlen : vs.length = ps.size := by
    rw [hv.length, ok.len _ (List.mem_of_getElem? hx), ← hps]; simp
   have hl := (H : Lp C _ a _ S π w)
   obtain ⟨_, _, _, hb, _⟩ := hl
   have hl := (hb _ (List.mem_cons_self ..)).1
   refine ⟨l, fn, _, L.assign, L.body, rfl, run_yield hl (by simpa [gI] using hlen), (aIA ok hI hx hps hfn hlb H hv hB).mono fun e w' kk => ?_⟩
   obtain ⟨b, s', S', π', he, hm, h1, h2, h3⟩ := kk
   refine ⟨b, s', S', π', he, ?_, ?_, h2, h1, h3⟩
   ·cases b with
    | b b =>
         cases b <;> cases s' <;> first | exact False.elim hm | skip
         ·obtain ⟨e, h1, h2, _⟩ := hm; exact ⟨e, h1, h2⟩
         ·obtain ⟨h1, h2, _⟩ := hm; exact ⟨h1, h2⟩
    | p p =>
         cases s' <;> first | exact False.elim hm | skip
         obtain ⟨h1, h2, _⟩ := hm; exact ⟨h1, h2⟩
   ·cases b with
    | b b =>
         cases b <;> cases s' <;> first | exact False.elim hm | skip
         ·obtain ⟨e, h1, h2, h3⟩ := hm; exact h3
         ·obtain ⟨h1, h2, h3⟩ := hm; exact h3
    | p p =>
         cases s' <;> first | exact False.elim hm | skip
         obtain ⟨h1, h2, h3⟩ := hm; exact h3
mutual
def toQ (h : Nat → Ob) : G → Option (Prop × P)
 | .ptr cs => match aBw h cs with | some (c, ps) => some (c ∧ jE ps = true, .ptr ps) | none => none
 | .fn f a b => match aBw h a with
  | some (c, ps) => match aBw h b with
   | some (d, qs) => some (c ∧ d, .fn f ps qs)
   | none => none
  | none => none
 | .iface t x => match toQ h x with | some (c, p) => some (c, .iface t p) | none => none
 | g => toP h g
def aBw (h : Nat → Ob) : List G → Option (Prop × List P)
 | [] => some (True, [])
 | g :: gs => match toQ h g with
  | some (c, p) => match aBw h gs with
   | some (d, ps) => some (c ∧ d, p :: ps)
   | none => none
  | none => none
end
theorem dJ.of_VRow {b : Nat} : ∀ {ps : List P} {o : Nat}, (∀ (j : Nat) p, ps[j]? = some p → ∃ u, π b (o + j) = some u ∧ aS π p u) → jE ps = true → dJ π b o ps
 | [], o, _, _ => by simp only [dJ]
 | p :: ps, o, h, h1 => by
  simp only [jE, Bool.and_eq_true] at h1
  simp only [dJ]
  refine ⟨?_, dJ.of_VRow (fun j q hq => ?_) h1.2⟩
  ·obtain ⟨u, e, r⟩ := h 0 p rfl
   exact ⟨u, e, r, h1.1⟩
  ·have := h (j + 1) q (by simpa using hq)
   rwa [Nat.add_assoc, Nat.add_comm 1]
mutual
theorem aCE {h : Nat → Ob} {A : E.α} (R : Rel E π ρ h A S w) : ∀ {g : G} {p : P} {c : Prop} {v : Value}, toQ h g = some (c, p) → c → aK π ρ E.yv g v → aS π p v
 | .ptr cs, p, c, v, hg, hc, hv => by
  simp only [toQ] at hg
  split at hg
  ·rename_i c1 ps hps
   cases hg
   simp only [aK] at hv
   obtain ⟨b, o, e, hr⟩ := hv
   simp only [aS]
   exact ⟨b, o, e, dJ.of_VRow (aDI R hps hc.1 hr) hc.2⟩
  ·cases hg
 | .fn f a b, p, c, v, hg, hc, hv => by
  simp only [toQ] at hg
  split at hg
  ·rename_i c1 ps h1
   split at hg
   ·rename_i c2 qs h2
    cases hg
    simp only [aK] at hv
    obtain ⟨as, bs, e, r1, r2⟩ := hv
    simp only [aS]
    exact ⟨as, bs, e, aCF R h1 hc.1 r1, aCF R h2 hc.2 r2⟩
   ·cases hg
  ·cases hg
 | .iface t x, p, c, v, hg, hc, hv => by
  simp only [toQ] at hg
  split at hg
  ·rename_i c1 q h1
   cases hg
   simp only [aK] at hv
   obtain ⟨u, e, r⟩ := hv
   simp only [aS]
   exact ⟨u, e, aCE R h1 hc r⟩
  ·cases hg
 | .p _, p, c, v, hg, hc, hv => fJ R (by simpa only [toQ] using hg) hc hv
 | .nils, p, c, v, hg, hc, hv => fJ R (by simpa only [toQ] using hg) hc hv
 | .agg _, p, c, v, hg, hc, hv => fJ R (by simpa only [toQ] using hg) hc hv
 | .tuple _, p, c, v, hg, hc, hv => fJ R (by simpa only [toQ] using hg) hc hv
 | .ref _ _, p, c, v, hg, hc, hv => fJ R (by simpa only [toQ] using hg) hc hv
 | .own _ _, p, c, v, hg, hc, hv => fJ R (by simpa only [toQ] using hg) hc hv
 | .aref _ _ _, p, c, v, hg, hc, hv => fJ R (by simpa only [toQ] using hg) hc hv
 | .fsl _ _ _, p, c, v, hg, hc, hv => fJ R (by simpa only [toQ] using hg) hc hv
 | .map _, p, c, v, hg, hc, hv => fJ R (by simpa only [toQ] using hg) hc hv
 | .abs, p, c, v, hg, hc, hv => fJ R (by simpa only [toQ] using hg) hc hv
 | .undef, p, c, v, hg, hc, hv => fJ R (by simpa only [toQ] using hg) hc hv
theorem aCF {h : Nat → Ob} {A : E.α} (R : Rel E π ρ h A S w) : ∀ {gs : List G} {ps : List P} {c : Prop} {vs : List Value}, aBw h gs = some (c, ps) → c → aQ π ρ E.yv gs vs → aU π ps vs
 | [], ps, c, vs, hg, _, hv => by
  simp only [aBw, Option.some.injEq, Prod.mk.injEq] at hg
  obtain ⟨-, rfl⟩ := hg
  simp only [aQ] at hv
  simp only [aU]; exact hv
 | g :: gs, ps, c, vs, hg, hc, hv => by
  simp only [aBw] at hg
  split at hg
  ·rename_i c1 p h1
   split at hg
   ·rename_i c2 qs h2
    cases hg
    simp only [aQ] at hv
    obtain ⟨v, vs', rfl, r1, r2⟩ := hv
    simp only [aU]
    exact ⟨v, vs', rfl, aCE R h1 hc.1 r1, aCF R h2 hc.2 r2⟩
   ·cases hg
  ·cases hg
theorem aDI {h : Nat → Ob} {A : E.α} (R : Rel E π ρ h A S w) : ∀ {gs : List G} {ps : List P} {c : Prop} {b o : Nat}, aBw h gs = some (c, ps) → c → eN π ρ E.yv b o gs → ∀ (j : Nat) p, ps[j]? = some p → ∃ u, π b (o + j) = some u ∧ aS π p u
 | [], ps, c, b, o, hg, _, hv, j, p, hp => by
  simp only [aBw, Option.some.injEq, Prod.mk.injEq] at hg
  obtain ⟨-, rfl⟩ := hg
  simp at hp
 | g :: gs, ps, c, b, o, hg, hc, hv, j, p, hp => by
  simp only [aBw] at hg
  split at hg
  ·rename_i c1 q h1
   split at hg
   ·rename_i c2 qs h2
    cases hg
    simp only [eN] at hv
    obtain ⟨⟨u, e, r1, _⟩, r2⟩ := hv
    cases j with
    | zero => simp at hp; subst hp; exact ⟨u, e, aCE R h1 hc.1 r1⟩
    | succ j =>
     have := aDI R h2 hc.2 r2 j p (by simpa using hp)
     rwa [Nat.add_assoc, Nat.add_comm 1] at this
   ·cases hg
  ·cases hg
end
def toR : G → Option G
 | .p v => match v with | .ptr cs => some (.ptr (cs.map .p)) | _ => none
 | _ => none
inductive Sp where
 | k
 | p
 | q
 | r
 | n (ss : List Sp)
 | f (ss : List Sp)
mutual
def cvS (h : Nat → Ob) : Sp → G → Option (Prop × G)
 | .k, g => some (True, g)
 | .p, g => match toP h g with
  | some (c, p) => some (c, .p p)
  | none => none
 | .q, g => match toQ h g with
  | some (c, p) => some (c, .p p)
  | none => none
 | .r, g => match toR g with
  | some g' => some (True, g')
  | none => none
 | .n ss, .ptr cs => match hZ h ss (cs.take ss.length) with
  | some (c, cs') => some (c ∧ bB cs' = true, .ptr cs')
  | none => none
 | .n ss, .ref id off => match h id with
  | .cells cs fz => match hZ h ss ((cs.drop off).take ss.length) with
   | some (c, cs') => some (c ∧ off + ss.length ≤ fz ∧ bB cs' = true, .ptr cs')
   | none => none
  | _ => none
 | .f ss, .fn f a b => match hZ h ss b with
  | some (c, b') => some (c, .fn f a b')
  | none => none
 | _, _ => none
def hZ (h : Nat → Ob) : List Sp → List G → Option (Prop × List G)
 | [], [] => some (True, [])
 | s :: ss, g :: gs => match cvS h s g with
  | some (c, g') => match hZ h ss gs with
   | some (d, gs') => some (c ∧ d, g' :: gs')
   | none => none
  | none => none
 | _, _ => none
end
theorem aNX {h : Nat → Ob} {A : E.α} (R : Rel E π ρ h A S w) {g g' : G} {c : Prop} {v : Value} (hg : cvS h .q g = some (c, g')) (hc : c) (hv : aK π ρ E.yv g v) : aK π ρ E.yv g' v := by
 simp only [cvS] at hg
 split at hg
 ·rename_i ht
  cases hg
  have := aCE R ht hc hv
  simpa only [aK] using this
 ·cases hg
theorem aNY {h : Nat → Ob} {y : Value} {g g' : G} {c : Prop} {v : Value} (hg : cvS h .r g = some (c, g')) (hv : aK π ρ y g v) : aK π ρ y g' v := by
 simp only [cvS] at hg
 split at hg
 ·rename_i g2 h2
  cases hg
  unfold toR at h2
  split at h2
  ·split at h2
   ·cases h2
    simp only [aK, aS] at hv ⊢
    obtain ⟨b, o, e, hr⟩ := hv
    exact ⟨b, o, e, eN.of_PRow hr⟩
   ·cases h2
  ·cases h2
 ·cases hg
theorem aMl {h : Nat → Ob} {g g' : G} {c : Prop} (hg : cvS h .q g = some (c, g')) : ∀ id, g'.men id = true → h id ≠ .none := by
 simp only [cvS] at hg
 split at hg
 ·cases hg; intro id h; simp [G.men] at h
 ·cases hg
theorem aMm {h : Nat → Ob} {g g' : G} {c : Prop} (hg : cvS h .r g = some (c, g')) : ∀ id, g'.men id = true → h id ≠ .none := by
 simp only [cvS] at hg
 split at hg
 ·rename_i g2 h2
  cases hg
  unfold toR at h2
  split at h2
  ·split at h2
   ·cases h2
    intro id h
    simp only [G.men] at h
    rw [gO] at h; cases h
   ·cases h2
  ·cases h2
 ·cases hg
mutual
theorem aCG {h : Nat → Ob} {A : E.α} (R : Rel E π ρ h A S w) : ∀ {s : Sp} {g g' : G} {c : Prop} {v : Value}, cvS h s g = some (c, g') → c → aK π ρ E.yv g v → aK π ρ E.yv g' v
 | .k, g, g', c, v, hg, _, hv => by simp only [cvS, Option.some.injEq, Prod.mk.injEq] at hg; obtain ⟨-, rfl⟩ := hg; exact hv
 | .p, g, g', c, v, hg, hc, hv => by
  simp only [cvS] at hg
  split at hg
  ·rename_i ht
   cases hg
   have := fJ R ht hc hv
   simpa only [aK] using this
  ·cases hg
 | .q, g, g', c, v, hg, hc, hv => aNX R hg hc hv
 | .r, g, g', c, v, hg, hc, hv => aNY hg hv
 | .n ss, g, g', c, v, hg, hc, hv => by
  cases g <;> simp only [cvS, reduceCtorEq] at hg
  ·rename_i cs
   split at hg
   ·rename_i c1 cs' hcs
    cases hg
    simp only [aK] at hv ⊢
    obtain ⟨b, o, e, hr⟩ := hv
    exact ⟨b, o, e, aAQ R hcs hc.1 (hr.take _) hc.2⟩
   ·cases hg
  ·rename_i id off
   split at hg
   ·rename_i cs fz ho
    split at hg
    ·rename_i c1 cs' hcs
     cases hg
     simp only [aK] at hv ⊢
     exact ⟨_, _, hv, aAQ R hcs hc.1 (aCD R ho hc.2.1) hc.2.2⟩
    ·cases hg
   ·cases hg
 | .f ss, g, g', c, v, hg, hc, hv => by
  cases g <;> simp only [cvS, reduceCtorEq] at hg
  split at hg
  ·rename_i c1 b' hb
   cases hg
   simp only [aK] at hv ⊢
   obtain ⟨as, bs, e, h1, h2⟩ := hv
   exact ⟨as, bs, e, h1, wE R hb hc h2⟩
  ·cases hg
theorem wE {h : Nat → Ob} {A : E.α} (R : Rel E π ρ h A S w) : ∀ {ss : List Sp} {gs gs' : List G} {c : Prop} {vs : List Value}, hZ h ss gs = some (c, gs') → c → aQ π ρ E.yv gs vs → aQ π ρ E.yv gs' vs
 | [], [], gs', c, vs, hg, _, hv => by
  simp only [hZ, Option.some.injEq, Prod.mk.injEq] at hg
  obtain ⟨-, rfl⟩ := hg
  exact hv
 | [], _ :: _, _, _, _, hg, _, _ => by simp [hZ] at hg
 | _ :: _, [], _, _, _, hg, _, _ => by simp [hZ] at hg
 | s :: ss, g :: gs, gs', c, vs, hg, hc, hv => by
  simp only [hZ] at hg
  split at hg
  ·rename_i c1 g1 h1
   split at hg
   ·rename_i c2 gs2 h2
    cases hg
    simp only [aQ] at hv ⊢
    obtain ⟨v, vs', rfl, r1, r2⟩ := hv
    exact ⟨v, vs', rfl, aCG R h1 hc.1 r1, wE R h2 hc.2 r2⟩
   ·cases hg
  ·cases hg
theorem aAQ {h : Nat → Ob} {A : E.α} (R : Rel E π ρ h A S w) : ∀ {ss : List Sp} {gs gs' : List G} {c : Prop} {b o : Nat}, hZ h ss gs = some (c, gs') → c → eN π ρ E.yv b o gs → bB gs' = true → eN π ρ E.yv b o gs'
 | [], [], gs', c, b, o, hg, _, hv, _ => by
  simp only [hZ, Option.some.injEq, Prod.mk.injEq] at hg
  obtain ⟨-, rfl⟩ := hg
  exact hv
 | [], _ :: _, _, _, _, _, hg, _, _, _ => by simp [hZ] at hg
 | _ :: _, [], _, _, _, _, hg, _, _, _ => by simp [hZ] at hg
 | s :: ss, g :: gs, gs', c, b, o, hg, hc, hv, h1o => by
  simp only [hZ] at hg
  split at hg
  ·rename_i c1 g1 h1
   split at hg
   ·rename_i c2 gs2 h2
    cases hg
    simp only [bB, Bool.and_eq_true] at h1o
    simp only [eN] at hv ⊢
    obtain ⟨⟨u, r1, r2, r3⟩, r4⟩ := hv
    exact ⟨⟨u, r1, aCG R h1 hc.1 r2, h1o.1⟩, aAQ R h2 hc.2 r4 h1o.2⟩
   ·cases hg
  ·cases hg
end
mutual
theorem aCH {h : Nat → Ob} (hw : ∀ j id, (h j).men id = true → h id ≠ .none) : ∀ {s : Sp} {g g' : G} {c : Prop}, cvS h s g = some (c, g') → (∀ id, g.men id = true → h id ≠ .none) → ∀ id, g'.men id = true → h id ≠ .none
 | .k, g, g', c, hg, hm => by simp only [cvS, Option.some.injEq, Prod.mk.injEq] at hg; obtain ⟨-, rfl⟩ := hg; exact hm
 | .p, g, g', c, hg, hm => by
  simp only [cvS] at hg
  split at hg
  ·cases hg; intro id h; simp [G.men] at h
  ·cases hg
 | .q, g, g', c, hg, hm => aMl hg
 | .r, g, g', c, hg, hm => aMm hg
 | .n ss, g, g', c, hg, hm => by
  cases g <;> simp only [cvS, reduceCtorEq] at hg
  ·split at hg
   ·rename_i hcs
    cases hg
    simp only [G.men] at hm ⊢
    exact tD hw hcs fun id h => hm id (nK h)
   ·cases hg
  ·split at hg
   ·rename_i cs fz ho
    split at hg
    ·rename_i hcs
     cases hg
     simp only [G.men]
     exact tD hw hcs fun id h => hw _ id (by rw [ho]; exact nL (nK h))
    ·cases hg
   ·cases hg
 | .f ss, g, g', c, hg, hm => by
  cases g <;> simp only [cvS, reduceCtorEq] at hg
  split at hg
  ·rename_i hb
   cases hg
   intro id h
   simp only [G.men, Bool.or_eq_true] at hm h
   rcases h with h | h
   ·exact hm id (.inl h)
   ·exact tD hw hb (fun id h => hm id (.inr h)) id h
  ·cases hg
theorem tD {h : Nat → Ob} (hw : ∀ j id, (h j).men id = true → h id ≠ .none) : ∀ {ss : List Sp} {gs gs' : List G} {c : Prop}, hZ h ss gs = some (c, gs') → (∀ id, G.mens id gs = true → h id ≠ .none) → ∀ id, G.mens id gs' = true → h id ≠ .none
 | [], [], gs', c, hg, hm => by
  simp only [hZ, Option.some.injEq, Prod.mk.injEq] at hg
  obtain ⟨-, rfl⟩ := hg
  exact hm
 | [], _ :: _, _, _, hg, _ => by simp [hZ] at hg
 | _ :: _, [], _, _, hg, _ => by simp [hZ] at hg
 | s :: ss, g :: gs, gs', c, hg, hm => by
  simp only [hZ] at hg
  split at hg
  ·rename_i c1 g1 h1
   split at hg
   ·rename_i c2 gs2 h2
    cases hg
    intro id h
    simp only [G.mens, Bool.or_eq_true] at hm h
    rcases h with h | h
    ·exact aCH hw h1 (fun id h => hm id (.inl h)) id h
    ·exact tD hw h2 (fun id h => hm id (.inr h)) id h
   ·cases hg
  ·cases hg
end
def imm : G → Bool
 | .p _ => true
 | .nils => true
 | .agg cs => imms cs
 | .tuple cs => imms cs
 | .fn _ a b => imms a && imms b
 | .iface _ x => imm x
 | .ptr cs => imms cs
 | _ => false
where imms : List G → Bool
 | [] => true
 | g :: gs => imm g && imms gs
mutual
theorem aCI {ρ2 : RM} {y y2 : Value} : ∀ {g : G} {v : Value}, imm g = true → aK π ρ y g v → aK π ρ2 y2 g v
 | .p _, v, _, h => by simpa only [aK] using h
 | .nils, v, _, h => by simpa only [aK] using h
 | .agg cs, v, hi, h => by
  simp only [imm] at hi
  simp only [aK] at h ⊢
  obtain ⟨vs, e, h⟩ := h
  exact ⟨vs, e, oE hi h⟩
 | .tuple cs, v, hi, h => by
  simp only [imm] at hi
  simp only [aK] at h ⊢
  obtain ⟨vs, e, h⟩ := h
  exact ⟨vs, e, oE hi h⟩
 | .fn f a b, v, hi, h => by
  simp only [imm, Bool.and_eq_true] at hi
  simp only [aK] at h ⊢
  obtain ⟨as, bs, e, h1, h2⟩ := h
  exact ⟨as, bs, e, oE hi.1 h1, oE hi.2 h2⟩
 | .iface t x, v, hi, h => by
  simp only [imm] at hi
  simp only [aK] at h ⊢
  obtain ⟨u, e, h⟩ := h
  exact ⟨u, e, aCI hi h⟩
 | .ptr cs, v, hi, h => by
  simp only [imm] at hi
  simp only [aK] at h ⊢
  obtain ⟨b, o, e, h⟩ := h
  exact ⟨b, o, e, aDJ hi h⟩
 | .ref _ _, _, hi, _ => by simp [imm] at hi
 | .own _ _, _, hi, _ => by simp [imm] at hi
 | .aref _ _ _, _, hi, _ => by simp [imm] at hi
 | .fsl _ _ _, _, hi, _ => by simp [imm] at hi
 | .map _, _, hi, _ => by simp [imm] at hi
 | .abs, _, hi, _ => by simp [imm] at hi
 | .undef, _, hi, _ => by simp [imm] at hi
theorem oE {ρ2 : RM} {y y2 : Value} : ∀ {gs : List G} {vs : List Value}, imm.imms gs = true → aQ π ρ y gs vs → aQ π ρ2 y2 gs vs
 | [], vs, _, h => by simpa only [aQ] using h
 | g :: gs, vs, hi, h => by
  simp only [imm.imms, Bool.and_eq_true] at hi
  simp only [aQ] at h ⊢
  obtain ⟨v, vs', e, h1, h2⟩ := h
  exact ⟨v, vs', e, aCI hi.1 h1, oE hi.2 h2⟩
theorem aDJ {ρ2 : RM} {y y2 : Value} {b : Nat} : ∀ {gs : List G} {o : Nat}, imm.imms gs = true → eN π ρ y b o gs → eN π ρ2 y2 b o gs
 | [], o, _, h => by simp only [eN]
 | g :: gs, o, hi, h => by
  simp only [imm.imms, Bool.and_eq_true] at hi
  simp only [eN] at h ⊢
  obtain ⟨⟨u, h1, h2, h3⟩, h4⟩ := h
  exact ⟨⟨u, h1, aCI hi.1 h2, h3⟩, aDJ hi.2 h4⟩
end
def oF (fr : Nat → G) (g : Operand) : Option (FuncId × List G × List G) := match gev fr g with
 | .p (.fn (.func f) a b) => some (f, a.map .p, b.map .p)
 | .fn (.func f) a b => some (f, a, b)
 | _ => none
theorem aBV (H : St C σ a w π ρ S) {g : Operand} {f : FuncId} {ga gb : List G} (hg : oF σ.fr g = some (f, ga, gb)) : ∃ us vs, a.eval g = .func (.func f) ⟨us⟩ ⟨vs⟩ ∧ aQ π ρ E.yv ga us ∧ aQ π ρ E.yv gb vs := by
 have hv := fO H g
 unfold oF at hg
 split at hg
 ·rename_i he
  cases hg
  rw [he] at hv
  simp only [aK, aS] at hv
  obtain ⟨us, vs, e, h1, h2⟩ := hv
  exact ⟨us, vs, e, .of_PRels h1, .of_PRels h2⟩
 ·rename_i he
  cases hg
  rw [he] at hv
  simp only [aK] at hv
  exact hv
 ·cases hg
theorem Rel.mark {h : Nat → Ob} {A : E.α} (R : Rel E π ρ h A S w) {d D : Nat} (hd : h d = .none) (hdm : ∀ j, (h j).men d = false) (hD : w.heap[D]? = some (.deferred (some []))) (hn : ¬ Own ρ h S D) :
  Rel E π (upd ρ d ⟨D, undef, 0⟩) (upd h d .mark) A S w := by
 have hl : ∀ j, j ≠ d → bL (upd ρ d ⟨D, undef, 0⟩) j (upd h d .mark j) = bL ρ j (h j) := fun j hj => by
  rw [aZ _ _ hj]
  cases h j <;> simp [bL, aZ _ _ hj]
 have hld : bL (upd ρ d ⟨D, undef, 0⟩) d (upd h d .mark d) = some D := by simp [aV, bL]
 refine ⟨R.know, fun j => ?_, fun i j b hij hi hj => ?_, fun i b hi => ?_, R.res, R.inb, R.gl⟩
 ·by_cases hj : j = d
  ·subst hj; rw [aV]
   show w.heap[(upd ρ j ⟨D, undef, 0⟩ j).blk]? = _
   rw [aV]; exact hD
  ·rw [aZ _ _ hj]
   refine (R.objs j).keep (PM.le_refl _) (aZ _ _ hj) (fun i hm => ?_) fun b hb => ⟨rfl, rfl⟩
   by_cases e : i = d
   ·subst e; rw [hdm j] at hm; cases hm
   ·rw [aZ _ _ e]; exact .inl rfl
 ·by_cases hi' : i = d
  ·subst hi'
   rw [hld] at hi; cases hi
   rw [hl j (Ne.symm hij)] at hj
   exact hn (.inr ⟨j, hj⟩)
  ·rw [hl i hi'] at hi
   by_cases hj' : j = d
   ·subst hj'
    rw [hld] at hj; cases hj
    exact hn (.inr ⟨i, hi⟩)
   ·rw [hl j hj'] at hj
    exact R.apart i j b hij hi hj
 ·by_cases hi' : i = d
  ·subst hi'
   rw [hld] at hi; cases hi
   exact fun hs => hn (.inl hs)
  ·rw [hl i hi'] at hi
   exact R.sep i b hi
theorem LSt.alloc (H : LSt C σ a w π ρ S) (o : Obj) : LSt C σ a (w.alloc o) π ρ S := H.stable (by simp) (fun b hb => ⟨Below.heap_alloc w _ b (by
  rcases hb with hb | ⟨id, hb⟩
  ·exact H.rel.inb b hb
  ·exact (H.rel.objs id).lt hb), rfl⟩) (PM.le_refl _) (eW H.rel.know _)
theorem aCJ {h : Nat → Ob} {A : E.α} (R : Rel E π ρ h A S w) {b : Nat} (hb : Own ρ h S b) : b < w.heap.size := by
 rcases hb with hb | ⟨id, hb⟩
 ·exact R.inb b hb
 ·exact (R.objs id).lt hb
theorem aKs {Q : Exit → Act → World → Prop} {e : GE} {c : Code} (hj : jmp e = some c) (hq : match e with | .ret => Q .ret a w | .exit i => Q (.exit i) a w | .goto t => Q (.goto t) a w | _ => False) : c.wpIn (MF Pg r) 0 Pg Q a w := by
 cases e <;> simp only [jmp, Option.some.injEq, reduceCtorEq] at hj
 ·subst hj; exact wpIn_exit hq
 ·subst hj; exact wpIn_goto hq
 ·subst hj; exact wpIn_ret hq
theorem aAR {Q : GE → Sg E → Prop} {e : GE} {c : Code} (hj : jmp e = some c) (H : Holds C σ a w) (hq : Q e σ) : c.wpIn (MF Pg r) 0 Pg (cD C Q) a w := by
 refine aKs hj ?_
 cases e <;> simp only [jmp, reduceCtorEq] at hj
 ·exact ⟨σ, H, hq⟩
 ·exact ⟨σ, H, hq⟩
 ·exact ⟨σ, H, hq⟩
theorem aGT (ok : L.Ok) {l : Nat} {fn : FuncId} (hfn : L.pan = true → (Pg.funcs[fn]?).isSome = true) {D : Nat} {ps : Array Tmp} (hps : ps.toList = L.ps) {bs : List (Nat × Obj)} (hlb : ∀ p ∈ bs, p.1 ≠ l) {f : FuncId} {args : List G} (it : aAO Pg f args L.xs L.tail L.pan)
  {h : Nat → Ob} {A : E.α} (h0 : L.I 0 h A) (H : Lp C ⟨L.fr, h, A, L.df⟩ a ((l, .loop (gI fn a.tmps ps L.assign L.body D .ready none)) :: bs) S π w) (hgl : Kn.good Pg π)
  (hk : ∀ b o v, π b o = some v → w.cell? ⟨b, o, none⟩ = some v) (hin : ∀ b, S b → b < w.heap.size) {vs : List Value} {ρ2 : RM} (hv : aQ π ρ2 (.func (.yield l) #[] #[]) args vs) :
  CallsIn (MF Pg none) 0 Pg f ⟨vs⟩ w fun
   | .returned _, w3 => ∃ (jump : Option Code) (h' : Nat → Ob) (A' : E.α) (S' : Nat → Prop) (π' : PM) (o : Loop), (Instr.endLoop l).run Pg w3 = .ok jump (w3.putObj l (.loop o)) ∧ cG S w π S' (w3.putObj l (.loop o)) π' ∧
     Lp C ⟨L.fr, h', A', L.df⟩ a ((l, .loop o) :: bs) S' π' (w3.putObj l (.loop o)) ∧ (match jump with | none => L.tail = none ∧ L.I L.xs.length h' A' | some c => ∃ e, jmp e = some c ∧ L.K e h' A')
   | .panicked chain, w3 => ∃ (p : P) (v : Value) (h' : Nat → Ob) (A' : E.α) (S' : Nat → Prop) (π' : PM) (o : Loop), chain = [{ v, recovered := false }] ∧ aS π' p v ∧ cG S w π S' w3 π' ∧
     Lp C ⟨L.fr, h', A', L.df⟩ a ((l, .loop o) :: bs) S' π' w3 ∧ ((L.tail = some p ∧ L.I L.xs.length h' A') ∨ L.KP p h' A')
   | _, _ => False := by
 let E2 := aNW ok a l fn hfn D hps bs hlb
 have hR2 : Rel E2 π ρ2 (aG []) (LS.run 0 h A) S w := ⟨hk, fun _ => trivial, fun i j b _ hi => by simp [aG, bL] at hi, fun i b hi => by simp [aG, bL] at hi, H, hin, hgl⟩
 have spec := it E2 (fun k s => ∃ h A, s = LS.run k h A ∧ L.I k h A) (fun s => ∃ c h A e, s = LS.jump c h A ∧ jmp e = some c ∧ L.K e h A) (fun p s => ∃ h A, s = LS.dead p h A ∧ L.KP p h A)
  (fun k s x ⟨h, A, e, hI⟩ hx => by subst e; exact ⟨hI, hx⟩)
  (fun k s x b s' ⟨h, A, e, hI⟩ hx hy => by
   subst e
   cases b with
   | b b =>
    cases b <;> cases s' <;> first | exact False.elim hy | skip
    ·obtain ⟨e, h1, h2⟩ := hy; exact ⟨_, _, _, e, rfl, h1, h2⟩
    ·obtain ⟨h1, h2⟩ := hy; exact ⟨_, _, by rw [h1], h2⟩
   | p p =>
    cases s' <;> first | exact False.elim hy | skip
    obtain ⟨h1, h2⟩ := hy; subst h1; exact ⟨(ok.wfP _ _ _ h2).1, _, _, rfl, h2⟩)
  (LS.run 0 h A) ⟨h, A, rfl, h0⟩
 refine (spec π ρ2 S w vs hR2 hv).mono fun e w3 k3 => ?_
 have hS : ∀ b, Own ρ2 (aG []) S b → S b := fun b hb => by
  rcases hb with hb | ⟨id, hb⟩
  ·exact hb
  ·simp [aG, bL] at hb
 cases e with
 | outgrown => exact k3
 | panicked ch =>
  obtain ⟨π', ρ', h', A', S', p, v, hB, hch, hpv, hq⟩ := k3
  have hT := (hB.trans.weaken hS).shrink (O'' := S') fun b hb => .inl hb
  rcases hq with ⟨_, _, _, e, _⟩ | ⟨p', h1, A1, e, hq⟩
  ·cases e
  ·cases e
   rcases hq with ⟨ht, h2, A2, e, hI⟩ | ⟨h2, A2, e, hK⟩
   ·subst e
    exact ⟨p, v, h2, A2, S', π', _, hch, hpv, hT, hB.rel.res, .inl ⟨ht, hI⟩⟩
   ·subst e
    exact ⟨p, v, h2, A2, S', π', _, hch, hpv, hT, hB.rel.res, .inr hK⟩
 | returned v =>
  obtain ⟨π', ρ', h', A', S', g, hB, _, _, hq⟩ := k3
  have hq : (L.tail = none ∧ ∃ k h A, A' = LS.run k h A ∧ k = L.xs.length ∧ L.I k h A) ∨ ∃ c h A e, A' = LS.jump c h A ∧ jmp e = some c ∧ L.K e h A := by
   rcases hq with ⟨v, h1, A1, e, hq⟩ | ⟨_, _, _, e, _⟩
   ·cases e
    rcases hq with ⟨ht, h, A, e, hI⟩ | hq
    ·exact .inl ⟨ht, _, h, A, e, rfl, hI⟩
    ·exact .inr hq
   ·cases e
  have hT := (hB.trans.weaken hS).shrink (O'' := S') fun b hb => .inl hb
  have main : ∀ (st : LoopState) (pe : Option Code) (h1 : Nat → Ob) (A1 : E.α), st ≠ .busy → Lp C ⟨L.fr, h1, A1, L.df⟩ a ((l, .loop (gI fn a.tmps ps L.assign L.body D st pe)) :: bs) S' π' w3 →
    ∃ o, (Instr.endLoop l).run Pg w3 = .ok pe (w3.putObj l (.loop o)) ∧ cG S w π S' (w3.putObj l (.loop o)) π' ∧ Lp C ⟨L.fr, h1, A1, L.df⟩ a ((l, .loop o) :: bs) S' π' (w3.putObj l (.loop o)) := fun st pe h1 A1 hst HL => by
   obtain ⟨ρ3, S3, H3, hb3, hS3⟩ := HL
   have hl3 := (hb3 _ (List.mem_cons_self ..)).1
   have hlt3 := (Array.getElem?_eq_some_iff.1 hl3).1
   refine ⟨_, run_endLoop hl3 hst, hT.trans (tW ((hS3 l).2 (.inr ⟨_, List.mem_cons_self .., rfl⟩))), ρ3, S3, H3.other (hb3 _ (List.mem_cons_self ..)).2 (fun o' ho => by rw [hl3] at ho; cases ho; rfl), fun p hp => ?_, fun b => (hS3 b).trans ?_⟩
   ·rcases List.mem_cons.1 hp with rfl | hp
    ·exact ⟨World.putObj_heap_same hlt3, (hb3 _ (List.mem_cons_self ..)).2⟩
    ·have := hb3 p (List.mem_cons_of_mem _ hp)
     exact ⟨(World.putObj_heap_other (hlb p hp)).trans this.1, this.2⟩
   ·simp
  rcases hq with ⟨ht, k, h1, A1, e, hk, hI⟩ | ⟨c, h1, A1, e, he, hj, hK⟩
  ·subst e
   obtain ⟨o, m1, m2, m3⟩ := main .ready none h1 A1 (by simp) hB.rel.res
   exact ⟨none, h1, A1, S', π', o, m1, m2, m3, ht, hk ▸ hI⟩
  ·subst he
   obtain ⟨o, m1, m2, m3⟩ := main .done (some c) h1 A1 (by simp) hB.rel.res
   exact ⟨some c, h1, A1, S', π', o, m1, m2, m3, e, hj, hK⟩
theorem uM {g : Operand} {f : FuncId} {us vs : List Value} (he : a.eval g = .func (.func f) ⟨us⟩ ⟨vs⟩) (hent : aJ Pg f) (l : Nat) (w : World) :
  ∃ d, (resolve a.eval (rangeCall g l) 0).run Pg w = .ok d w ∧ (invoke d.target d.args).run Pg w = .ok (.enter f ⟨us ++ (.func (.yield l) #[] #[] :: vs)⟩) w ∧ ∀ f', Target.leads Pg w d.target d.args = some f' → f' = f := by
 refine ⟨{ target := .fn (.func f) ⟨vs⟩, args := ⟨us⟩ ++ #[.func (.yield l) #[] #[]] }, ?_, ?_, fun f' hf' => by simp [Target.leads] at hf'; exact hf'.symm⟩
 ·simp [resolve, he, Deferred.ofValue]; rfl
 ·have := hent (⟨us ++ (.func (.yield l) #[] #[] :: vs)⟩) w
  simpa [invoke] using this
theorem aEV (L : Lo C) (ok : L.Ok) {g : Operand} {ps : Array Tmp} (hps : ps.toList = L.ps) {f : FuncId} {ga gb aa ab : List G} {ka kb : List Sp} {ca cb : Prop} {assign body : Code} (hg : oF σ.fr g = some (f, ga, gb)) (hent : aJ Pg f)
  (hca : hZ σ.h ka ga = some (ca, aa)) (hcb : hZ σ.h kb gb = some (cb, ab)) (hia : imm.imms aa = true) (hib : imm.imms ab = true) (h1 : ca) (h2 : cb) (it : aAO Pg f (aa ++ (.abs :: ab)) L.xs L.tail L.pan) (hfr : L.fr = σ.fr) (hdf : L.df = σ.df) (has : L.assign = assign) (hbo : L.body = body) (h0 : L.I 0 σ.h σ.A) {d : Nat} (hd : C.lim ≤ d)
  {Q : GE → Sg E → Prop} (hK : ∀ e h A, L.K e h A → h d = .none ∧ Q e ⟨L.fr, upd h d .mark, A, .mark d :: L.df⟩) (hP : ∀ p h A, ((L.tail = some p ∧ L.I L.xs.length h A) ∨ L.KP p h A) → h d = .none ∧ Q (.panic p) ⟨L.fr, upd h d .mark, A, .mark d :: L.df⟩) (hI : ∀ h A, L.tail = none → L.I L.xs.length h A → h d = .none ∧ Q .normal ⟨L.fr, upd h d .mark, A, .mark d :: L.df⟩) :
  ∀ a w, Holds C σ a w → ∀ fn : FuncId, (L.pan = true → (Pg.funcs[fn]?).isSome = true) → ∃ (l : Nat) (mark : List Deferred) (w₁ : World) (d : Deferred) (w₁' : World) (f : FuncId) (args : Array Value) (w₂ : World),
   (Instr.enterLoop fn a.tmps ps assign body none).run Pg w = .ok (l, mark) w₁ ∧
   (resolve a.eval (rangeCall g l) 0).run Pg w₁ = .ok d w₁' ∧
   (∀ f', Target.leads Pg w₁' d.target d.args = some f' → (MF Pg none).fn f') ∧
   (invoke d.target d.args).run Pg w₁' = .ok (.enter f args) w₂ ∧
   ((MF Pg none).depth.isSome = true → 1 ≤ 0) ∧
   CallsIn (MF Pg none) 0 Pg f args w₂ (rangePost (MF Pg none) 0 Pg l (cD C Q) { a with defers := mark ++ a.defers }) := by
 intro a w ⟨π, ρ, S, H⟩ fn hfn
 subst has hbo
 obtain ⟨us, vs, he, hu, hv⟩ := aBV H hg
 let D := w.heap.size
 let l := w.heap.size + 1
 let rc := gI fn a.tmps ps L.assign L.body D .ready none
 let w1 := (w.alloc (.deferred (some []))).alloc (.loop rc)
 have hl1 : w1.heap[l]? = some (.loop rc) := by
  have := World.alloc_heap_new (w.alloc (.deferred (some []))) (.loop rc); rwa [World.size_alloc] at this
 have hD1 : w1.heap[D]? = some (.deferred (some [])) := (Below.heap_alloc _ _ _ (by simp [D])).trans (World.alloc_heap_new w _)
 have hσ : (⟨L.fr, σ.h, σ.A, L.df⟩ : Sg E) = σ := by rw [hfr, hdf]
 have hLS : LSt C ⟨L.fr, σ.h, σ.A, L.df⟩ a w1 π ρ S := by rw [hσ]; exact (H.ls.alloc _).alloc _
 have hno : ∀ b, w.heap.size ≤ b → ¬ Own ρ σ.h S b := fun b hb ho => by have := aCJ H.rel ho; omega
 let S1 : Nat → Prop := fun b => Own ρ σ.h S b ∨ ∃ p ∈ [(l, Obj.loop rc), (D, .deferred (some []))], p.1 = b
 have HL : Lp C ⟨L.fr, σ.h, σ.A, L.df⟩ a [(l, .loop rc), (D, .deferred (some []))] S1 π w1 := ⟨ρ, S, hLS, fun p hp => by
   simp only [List.mem_cons, List.not_mem_nil, or_false] at hp
   rcases hp with rfl | rfl
   ·exact ⟨hl1, hno _ (by simp [l])⟩
   ·exact ⟨hD1, hno _ (by simp [D])⟩, fun _ => Iff.rfl⟩
 have hT1 : cG C.O0 C.w0 C.π0 S1 w1 π := by
  refine ⟨Nat.le_trans H.trans.size (by simp [w1]; omega), H.trans.os, H.trans.tape, H.trans.output, fun b hb hn => ?_, H.trans.le, fun b hb => ?_⟩
  ·have hb' : b < w.heap.size := Nat.lt_of_lt_of_le hb H.trans.size
   refine ⟨?_, (H.trans.keep b hb hn).2⟩
   exact ((Below.heap_alloc _ _ b (by simp; omega)).trans (Below.heap_alloc w _ b hb')).trans (H.trans.keep b hb hn).1
  ·rcases hb with hb | ⟨p, hp, rfl⟩
   ·exact H.trans.own b hb
   ·have := H.trans.size
    simp only [List.mem_cons, List.not_mem_nil, or_false] at hp
    rcases hp with rfl | rfl
    ·exact .inr (by simp [l]; omega)
    ·exact .inr (by simp [D]; omega)
 obtain ⟨dd, hres, hinv, hld⟩ := uM he hent l w1
 have hargs : aQ π ρ (.func (.yield l) #[] #[]) (aa ++ (.abs :: ab)) (us ++ (.func (.yield l) #[] #[] :: vs)) :=
  (oE hia (wE H.rel hca h1 hu)).append (by simp only [aQ, aK]; exact ⟨_, _, rfl, rfl, oE hib (wE H.rel hcb h2 hv)⟩)
 refine ⟨l, [{ target := .collected D, args := #[] }], w1, dd, w1, f, _, w1, run_enterLoop_outer _ _ _ _ _, hres, fun f' hf' => ?_, hinv, fun h => by simp [Fence.wide] at h, ?_⟩
 ·trivial
 refine iV ((aGT ok hfn hps (bs := [(D, .deferred (some []))]) (fun p hp => by simp at hp; subst hp; simp [D, l]) it h0 HL H.rel.gl (eW (eW H.rel.know _) _) (fun b hb => ?_) hargs).mono fun e w3 k3 => ?_)
 ·rcases hb with hb | ⟨p, hp, rfl⟩
  ·have := aCJ H.rel hb; simp [w1]; omega
  ·simp only [List.mem_cons, List.not_mem_nil, or_false] at hp
   rcases hp with rfl | rfl <;> simp [w1, l, D]
   omega
 have build : ∀ (W : World) (π' : PM) (S' : Nat → Prop) (h' : Nat → Ob) (A' : E.α) (o : Loop), cG S1 w1 π S' W π' → Lp C ⟨L.fr, h', A', L.df⟩ a [(l, .loop o), (D, .deferred (some []))] S' π' W → h' d = .none →
   ∃ ρ4 S4, St C ⟨L.fr, upd h' d .mark, A', .mark d :: L.df⟩ { a with defers := [{ target := .collected D, args := #[] }] ++ a.defers } W π' ρ4 S4 := fun W π' S' h' A' o hT HLp hhd => by
  obtain ⟨ρ3, S3, H3, hb3, hS3⟩ := HLp
  have hdm : ∀ j, (h' j).men d = false := fun j => by
   cases hm : (h' j).men d with
   | false => rfl
   | true => exact absurd hhd (H3.wfh j d hm)
  have hDb := hb3 (D, .deferred (some [])) (by simp)
  have R4 := H3.rel.mark hhd hdm hDb.1 hDb.2
  have hne : ∀ id, h' id ≠ .none → upd h' d Ob.mark id ≠ .none := fun id hid => by
   simp only [upd]; split
   ·simp
   ·exact hid
  have hidd : ∀ id, h' id ≠ .none → upd ρ3 d ⟨D, undef, 0⟩ id = ρ3 id := fun id hid => aZ _ _ fun e => hid (e ▸ hhd)
  refine ⟨upd ρ3 d ⟨D, undef, 0⟩, S3, H3.size, fun t => (H3.vals t).mono (PM.le_refl _) fun id hm => .inl (hidd id (H3.wfr t id hm)), ?_, R4, ?_, fun j hj => ?_, fun t id hm => hne id (H3.wfr t id hm), fun j id hm => ?_, fun g hg id hm => ?_⟩
  ·exact ⟨_, _, rfl, by simp [aGJ, aV], H3.defs.mono (PM.le_refl _) fun id g hg hm => .inl (hidd id (H3.wfd g hg id hm))⟩
  ·refine (hT1.trans hT).shrink fun b hb => (hS3 b).2 ?_
   rcases hb with hb | ⟨id, hb⟩
   ·exact .inl (.inl hb)
   ·by_cases e : id = d
    ·subst e
     simp only [aV, bL, Option.some.injEq] at hb
     exact .inr ⟨(D, .deferred (some [])), by simp, hb⟩
    ·simp only [aZ _ _ e] at hb
     refine .inl (.inr ⟨id, ?_⟩)
     have e2 : upd ρ3 d ⟨D, undef, 0⟩ id = ρ3 id := aZ _ _ e
     show bL ρ3 id (h' id) = some b
     cases ho : h' id <;> rw [ho] at hb <;> simp only [bL, e2, reduceCtorEq] at hb ⊢ <;> exact hb
  ·rw [aZ _ _ (by omega)]; exact H3.step j hj
  ·simp only [upd] at hm
   split at hm
   ·simp [Ob.men] at hm
   ·exact hne id (H3.wfh j id hm)
  ·rcases List.mem_cons.1 hg with rfl | hg
   ·simp only [GD.men, beq_iff_eq] at hm
    subst hm
    show upd h' d Ob.mark d ≠ .none
    rw [aV]; simp
   ·exact hne id (H3.wfd g hg id hm)
 cases e with
 | outgrown => exact k3.elim
 | panicked ch =>
  obtain ⟨p, v, h', A', S', π', o, hch, hpv, hT, HLp, hj⟩ := k3
  obtain ⟨hhd, hq⟩ := hP p h' A' hj
  obtain ⟨ρ4, S4, hSt⟩ := build _ _ _ _ _ _ hT HLp hhd
  exact ⟨_, p, v, π', ρ4, S4, hch, hpv, hSt, hq⟩
 | returned v =>
  obtain ⟨jump, h', A', S', π', o, hend, hT, HLp, hj⟩ := k3
  have hhd : h' d = .none := by
   cases jump with
   | none => exact (hI h' A' hj.1 hj.2).1
   | some c => obtain ⟨e, _, hk⟩ := hj; exact (hK e h' A' hk).1
  obtain ⟨ρ4, S4, hSt⟩ := build _ _ _ _ _ _ hT HLp hhd
  refine ⟨jump, _, hend, ?_⟩
  cases jump with
  | none => exact ⟨_, ⟨π', _, S4, hSt⟩, (hI h' A' hj.1 hj.2).2⟩
  | some c =>
   obtain ⟨e, hjm, hk⟩ := hj
   exact aAR hjm ⟨π', _, S4, hSt⟩ (hK e h' A' hk).2
def wpX (Pg : Program) (e : Bool) (r : Option Nat) (c : Code) (Q : Exit → Act → World → Prop) (a : Act) (w : World) : Prop :=
 ∀ (b : Frame) (k : List Item) (cs : List Frame), b.roundOf = r → (e = true → (Pg.funcs[b.fn]?).isSome = true) →
  ∃ e a' w', Q e a' w' ∧ ArrivesIn (Machine.fenced Pg (MF Pg r)) Pg (lone (b.atR a (.code c :: k)) cs w) b k cs e a' w'
theorem aMn {e : Bool} {c : Code} {Q : Exit → Act → World → Prop} (h : c.wpIn (MF Pg r) 0 Pg Q a w) : wpX Pg e r c Q a w := fun b k cs hro _ => h b k cs hro trivial (room_wide _)
theorem aAS {e : Bool} {c : Code} {Q Q' : Exit → Act → World → Prop} (h : wpX Pg e r c Q a w) (hq : ∀ e a w, Q e a w → Q' e a w) : wpX Pg e r c Q' a w :=
 fun b k cs hro hb => let ⟨e, a', w', q, r⟩ := h b k cs hro hb; ⟨e, a', w', hq _ _ _ q, r⟩
theorem aKt {e : Bool} {x y : Code} {Q : Exit → Act → World → Prop} (h : wpX Pg e r x (Exit.then (wpX Pg e r y Q) Q) a w) : wpX Pg e r (.seq x y) Q a w := by
 intro b k cs hro hb
 have h0 : (lone (b.atR a (.code (.seq x y) :: k)) cs w).fenced Pg (MF Pg r) := fenced_calm (n := 0) trivial (room_wide _) rfl
 obtain ⟨e1, a₁, w₁, hq, harr⟩ := h b (.code y :: k) cs hro hb
 cases e1 with
 | normal =>
  obtain ⟨e₂, a₂, w₂, hq₂, harr₂⟩ := hq b k cs hro hb
  exact ⟨e₂, a₂, w₂, hq₂, .of_steps (.head h0 stepR_seq harr) harr₂⟩
 | exit id => exact ⟨_, a₁, w₁, hq, .of_steps (.one h0 stepR_seq) (.pass (x := .code y) rfl (fun _ _ => .inl (by simp)) harr)⟩
 | goto l => exact ⟨_, a₁, w₁, hq, .of_steps (.one h0 stepR_seq) (.pass (x := .code y) rfl (fun _ _ => .inl (by simp)) harr)⟩
 | ret => exact ⟨_, a₁, w₁, hq, .of_steps (.one h0 stepR_seq) (.pass (x := .code y) rfl (fun _ _ => .inl (by simp)) harr)⟩
 | panic ch => exact ⟨_, a₁, w₁, hq, .of_steps (.one h0 stepR_seq) (.pass (x := .code y) rfl (fun _ _ => .inl (by simp)) harr)⟩
 | outgrown => exact ⟨_, a₁, w₁, hq, .of_steps (.one h0 stepR_seq) (.pass (x := .code y) rfl (fun _ _ => .inl (by simp)) harr)⟩
theorem aGU {e : Bool} {id : Nat} {c : Code} {Q : Exit → Act → World → Prop} (h : wpX Pg e r c (Exit.inBlock id Q) a w) : wpX Pg e r (.block id c) Q a w := by
 intro b k cs hro hb
 have h0 : (lone (b.atR a (.code (.block id c) :: k)) cs w).fenced Pg (MF Pg r) := fenced_calm (n := 0) trivial (room_wide _) rfl
 obtain ⟨e1, a₁, w₁, hq, harr⟩ := h b (.inBlock id :: k) cs hro hb
 cases e1 with
 | normal => exact ⟨.normal, a₁, w₁, hq, .head h0 stepR_block (StepsIn.trans harr (.one (fenced_calm (n := 0) trivial (room_wide _) rfl) stepR_inBlock))⟩
 | exit id' =>
  by_cases hid : id' = id
  ·simp only [Exit.inBlock, hid, if_true] at hq
   exact ⟨.normal, a₁, w₁, hq, .head h0 stepR_block (harr.1 k (by simp [exitTo, hid]))⟩
  ·simp only [Exit.inBlock, hid, if_false] at hq
   have this : (id == id') = false := by simp; exact fun h => hid h.symm
   have hx : exitTo id' (.inBlock id :: k) = exitTo id' k := by simp [exitTo, this]
   exact ⟨.exit id', a₁, w₁, hq, fun k' hk => .head h0 stepR_block (harr.1 k' (by rw [hx]; exact hk)),
    fun hr' hk => let ⟨k₁, h1, h2⟩ := harr.2 hr' (by rw [hx]; exact hk); ⟨k₁, h1, .head h0 stepR_block h2⟩⟩
 | goto l =>
  have hx : gotoIn l (.inBlock id :: k) = gotoIn l k := by simp [gotoIn]
  exact ⟨_, a₁, w₁, hq, fun k' hk => .head h0 stepR_block (harr.1 k' (by rw [hx]; exact hk)),
   fun hr' hk => let ⟨k₁, h1, h2⟩ := harr.2 hr' (by rw [hx]; exact hk); ⟨k₁, h1, .head h0 stepR_block h2⟩⟩
 | ret => exact ⟨_, a₁, w₁, hq, .of_steps (.one h0 stepR_block) harr⟩
 | panic ch => exact ⟨_, a₁, w₁, hq, .of_steps (.one h0 stepR_block) harr⟩
 | outgrown => exact ⟨_, a₁, w₁, hq, .of_steps (.one h0 stepR_block) harr⟩
theorem uN {e : Bool} {g : Operand} {ps : Array Tmp} {assign body : Code} {Q : Exit → Act → World → Prop}
  (h : ∀ fn, (e = true → (Pg.funcs[fn]?).isSome = true) → ∃ (l : Nat) (mark : List Deferred) (w₁ : World) (d : Deferred) (w₁' : World) (f : FuncId) (args : Array Value) (w₂ : World),
   (Instr.enterLoop fn a.tmps ps assign body none).run Pg w = .ok (l, mark) w₁ ∧
   (resolve a.eval (rangeCall g l) 0).run Pg w₁ = .ok d w₁' ∧
   (∀ f', Target.leads Pg w₁' d.target d.args = some f' → (MF Pg none).fn f') ∧
   (invoke d.target d.args).run Pg w₁' = .ok (.enter f args) w₂ ∧
   ((MF Pg none).depth.isSome = true → 1 ≤ 0) ∧
   CallsIn (MF Pg none) 0 Pg f args w₂ (rangePost (MF Pg none) 0 Pg l Q { a with defers := mark ++ a.defers })) : wpX Pg e none (.rangeFunc g ps assign body) Q a w := by
 intro b k cs hro hb
 obtain ⟨l, mark, w₁, d, w₁', f, args, w₂, he, hres, hlead, hinv, hn, hF, hcall⟩ := h b.fn hb
 rw [← hro] at he
 have h0 : (lone (b.atR a (.code (.rangeFunc g ps assign body) :: k)) cs w).fenced Pg (MF Pg none) := by
  refine fenced_lone (.inl trivial) (fun f' hf' => hlead f' ?_) (room_wide _)
  have hev := Frame.eval_atR b a (.code (.rangeFunc g ps assign body) :: k)
  simp only [Frame.atR] at hev
  simp only [Frame.about, Frame.atR, he, hev, hres] at hf'
  exact hf'
 have henter := stepR_rangeFunc (P := Pg) (b := b) (a := a) (k := k) (cs := cs) (w := w) he hres hinv
 obtain ⟨e, w₃, fr, hR, hsteps, hfn, hleave⟩ := hcall (b.atR { a with defers := mark ++ a.defers } (.inRangeFunc l :: k) :: cs) (room_wide _)
 cases e with
 | outgrown =>
  obtain ⟨a₀, w₀, hq⟩ := hR
  exact ⟨.outgrown, a₀, w₀, hq, .inr (Outgrown.of_steps (.one henter) hsteps)⟩
 | returned v =>
  have hl : (lone fr (b.atR { a with defers := mark ++ a.defers } (.inRangeFunc l :: k) :: cs) w₃).fenced Pg (MF Pg none) := fenced_leaving (n := 0) trivial (room_wide _) hleave
  obtain ⟨jump, w₄, hend, hj⟩ := hR
  have sback : StepsIn (Machine.fenced Pg (MF Pg none)) Pg (lone (b.atR a (.code (.rangeFunc g ps assign body) :: k)) cs w) (lone (b.atR { a with defers := mark ++ a.defers } ((jump.map Item.code).toList ++ k)) cs w₄) := by
   refine .head h0 henter (StepsIn.trans hsteps (.head hl ?_ (.one (fenced_calm (n := 0) (fr := b.atR { a with defers := mark ++ a.defers } (.endRangeFunc l :: k)) trivial (room_wide _) rfl) (stepR_endRangeFunc hend))))
   rw [← finish_atR_inRangeFunc l v]; exact step_leave_returned hleave
  cases jump with
  | none => exact ⟨.normal, _, w₄, hj, sback⟩
  | some c =>
   obtain ⟨e', a'', w₅, hq, harr⟩ := hj b k cs hro trivial (room_wide _)
   exact ⟨e', a'', w₅, hq, .of_steps sback harr⟩
 | panicked chain =>
  have hl : (lone fr (b.atR { a with defers := mark ++ a.defers } (.inRangeFunc l :: k) :: cs) w₃).fenced Pg (MF Pg none) := fenced_leaving (n := 0) trivial (room_wide _) hleave
  refine ⟨.panic chain, _, w₃, hR, .inRangeFunc l :: k, .head h0 henter (StepsIn.trans hsteps (.one hl ?_))⟩
  rw [← Frame.raise_atR]; exact step_leave_panicked hleave
theorem aAT {f : FuncId} {fn : Func} {c : Code} {args : Array Value} {R : Ending → World → Prop} (hf : Pg.funcs[f]? = some fn) (hb : fn.body = some c)
  (h : wpX Pg true none c (bodyPostM (MF Pg none) 0 Pg fn R) { tmps := args ++ Array.replicate (fn.ntmps - args.size) undef, defers := [] } w) : CallsIn (MF Pg none) 0 Pg f args w R := by
 refine ⟨trivial, fun cs hr => ?_⟩
 let b : Frame := { (default : Frame) with fn := f, kind := .normal, roundOf := none }
 have henter : Frame.enter Pg f args .normal = b.atR { tmps := args ++ Array.replicate (fn.ntmps - args.size) undef, defers := [] } [.code c] := by
  simp [Frame.enter, Frame.atR, hf, hb, b]
 obtain ⟨e, a', w', hq, harr⟩ := h b [] cs rfl (fun _ => by show (Pg.funcs[f]?).isSome = true; rw [hf]; rfl)
 rw [← henter] at harr
 cases e with
 | normal =>
  obtain ⟨e', w'', fr', hR, hs, hfn, hl⟩ := leaves_stepsInM a'.defers .returning w' { b.atR a' [] with mode := .returning } cs rfl rfl rfl hf rfl trivial hr hq
  exact ⟨e', w'', fr', hR, ComesIn.of_steps (StepsIn.trans harr (.one (fenced_calm (n := 0) (fr := b.atR a' []) trivial hr rfl) (stepR_end rfl))) hs, hfn, hl⟩
 | ret =>
  obtain ⟨todo, hs₀⟩ := harr.1 rfl
  obtain ⟨e', w'', fr', hR, hs, hfn, hl⟩ := leaves_stepsInM a'.defers .returning w' { b.atR a' todo with mode := .returning } cs rfl rfl rfl hf rfl trivial hr hq
  exact ⟨e', w'', fr', hR, ComesIn.of_steps hs₀ hs, hfn, hl⟩
 | panic chain =>
  obtain ⟨todo, hs₀⟩ := harr
  obtain ⟨e', w'', fr', hR, hs, hfn, hl⟩ := leaves_stepsInM a'.defers (.panicking chain) w' { b.atR a' todo with mode := .panicking chain } cs rfl rfl rfl hf rfl trivial hr hq
  exact ⟨e', w'', fr', hR, ComesIn.of_steps hs₀ hs, hfn, hl⟩
 | exit id => exact hq.elim
 | goto l => exact hq.elim
 | outgrown => exact ⟨.outgrown, w', b, hq, harr.resolve_left (by simp [b]), rfl, trivial⟩
structure qR (e : Bool) (C : Cx E) (r : Option Nat) (c : Code) (Q : GE → Sg E → Prop) (σ : Sg E) : Prop where
 run : ∀ a w, Holds C σ a w → wpX Pg e r c (cD C Q) a w
theorem bO {e : Bool} {c : Code} {Q : GE → Sg E → Prop} (h : gwp C r c Q σ) : qR e C r c Q σ := ⟨fun a w H => aMn (h.run a w H)⟩
theorem aX {e : Bool} {x y : Code} {Q : GE → Sg E → Prop} (h : qR e C r x (vY (qR e C r y Q) Q) σ) : qR e C r (.seq x y) Q σ := ⟨fun a w H => aKt (aAS (h.run a w H) fun e a' w' k => by
 cases e with
 | normal => obtain ⟨σ', H', hq⟩ := k; exact qR.run hq a' w' H'
 | _ => exact k)⟩
theorem iN {e : Bool} {id : Nat} {c : Code} {Q : GE → Sg E → Prop} (h : qR e C r c (nW id Q) σ) : qR e C r (.block id c) Q σ := ⟨fun a w H => aGU (aAS (h.run a w H) fun e a' w' k => by
 cases e with
 | exit i =>
  obtain ⟨σ', H', hq⟩ := k
  simp only [nW] at hq
  simp only [Exit.inBlock]
  split
  ·rename_i e; rw [if_pos e] at hq; exact ⟨σ', H', hq⟩
  ·rename_i e; rw [if_neg e] at hq; exact ⟨σ', H', hq⟩
 | _ => exact k)⟩
theorem aKu {e : Bool} {c : Code} {Q : GE → Sg E → Prop} {σ' : Sg E} (h : Le C σ σ') (k : qR e C r c Q σ') : qR e C r c Q σ := ⟨fun a w H => k.run a w (h a w H)⟩
theorem aGV {e : Bool} (L : Lo C) (ok : L.Ok) {g : Operand} {ps : Array Tmp} (hps : ps.toList = L.ps) {f : FuncId} {ga gb aa ab : List G} {ka kb : List Sp} {ca cb : Prop} {assign body : Code} (hg : oF σ.fr g = some (f, ga, gb)) (hent : aJ Pg f)
  (hca : hZ σ.h ka ga = some (ca, aa)) (hcb : hZ σ.h kb gb = some (cb, ab)) (hia : imm.imms aa = true) (hib : imm.imms ab = true) (h1 : ca) (h2 : cb) (it : aAO Pg f (aa ++ (.abs :: ab)) L.xs L.tail L.pan) (hfr : L.fr = σ.fr) (hdf : L.df = σ.df) (has : L.assign = assign) (hbo : L.body = body) (h0 : L.I 0 σ.h σ.A) {d : Nat} (hd : C.lim ≤ d)
  {Q : GE → Sg E → Prop} (hK : ∀ e h A, L.K e h A → h d = .none ∧ Q e ⟨L.fr, upd h d .mark, A, .mark d :: L.df⟩) (hP : ∀ p h A, ((L.tail = some p ∧ L.I L.xs.length h A) ∨ L.KP p h A) → h d = .none ∧ Q (.panic p) ⟨L.fr, upd h d .mark, A, .mark d :: L.df⟩) (hI : ∀ h A, L.tail = none → L.I L.xs.length h A → h d = .none ∧ Q .normal ⟨L.fr, upd h d .mark, A, .mark d :: L.df⟩)
  (he : L.pan = true → e = true) : qR e C none (.rangeFunc g ps assign body) Q σ :=
 ⟨fun a w H => uN fun fn hfn => aEV L ok hps hg hent hca hcb hia hib h1 h2 it hfr hdf has hbo h0 hd hK hP hI a w H fn fun hp => hfn (he hp)⟩
end
section
open Go.RowKit
variable {Pg : Program} [Kn Pg] {E : Env Pg} {C : Cx E} {σ : Sg E} {a : Act} {w w' : World} {π π' : PM} {ρ ρ' : RM} {S S' : Nat → Prop} {r : Option Nat}
theorem pC {id : Nat} : ∀ {gs hs : List G}, G.mens id (gs ++ hs) = (G.mens id gs || G.mens id hs)
 | [], hs => by simp [G.mens]
 | g :: gs, hs => by simp only [List.cons_append, G.mens, pC, Bool.or_assoc]
theorem Le.freeze {id fz n : Nat} {cs cs1 : List G} {ss : List Sp} {c : Prop} (ho : σ.h id = .cells cs fz) (hn : fz ≤ n) (hn2 : n ≤ cs.length) (hcv : hZ σ.h ss (cs.take n) = some (c, cs1)) (hc : c) (h1 : bB cs1 = true) :
  Le C σ { σ with h := upd σ.h id (.cells (cs1 ++ cs.drop n) n) } := fun a w ⟨π, ρ, S, H⟩ => by
 have hid := H.rel.objs id
 rw [ho] at hid
 obtain ⟨vs, e, hw, hv, hone, hf, hnone⟩ := hid
 have hlen := hv.length
 let π' : PM := fun b o => if b = (ρ id).blk then (if o < n then vs[o]? else none) else π b o
 have hle : PM.le π π' := fun b o v hk => by
  simp only [π']
  split
  ·rename_i e; subst e
   have ho' : o < fz := by
    apply Nat.lt_of_not_le; intro hle
    rw [hnone o hle] at hk; cases hk
   rw [if_pos (by omega)]
   cases hvo : vs[o]? with
   | none => rw [List.getElem?_eq_none_iff] at hvo; omega
   | some u => rw [hf o u ho' hvo] at hk; exact hk
  ·exact hk
 have hrefl : upd ρ id (ρ id) = ρ := by funext j; unfold upd; split <;> simp_all
 have hnew : aQ π ρ E.yv (cs1 ++ cs.drop n) vs := by
  have h1 := wE H.rel hcv hc (hv.take n)
  have h2 := hv.drop n
  have := h1.append h2
  rwa [List.take_append_drop] at this
 have T := H.rel.turn (w' := w) (π' := π') id (ρ id) (.cells (cs1 ++ cs.drop n) n) (Nat.le_refl _) rfl rfl rfl (fun b hb hne => ⟨rfl, ?_⟩) hle (fun b o v hk => ?_) (fun _ _ _ => .inl rfl) ?_ (fun b hb => ?_)
 ·obtain ⟨R', T'⟩ := T
  rw [hrefl] at R' T'
  have hne : ∀ i, σ.h i ≠ .none → upd σ.h id (Ob.cells (cs1 ++ cs.drop n) n) i ≠ .none := fun i hi => by
   simp only [upd]; split
   ·simp
   ·exact hi
  refine ⟨π', ρ, S, H.putObj R' T' (fun _ _ => .inl rfl) (fun _ _ => .inl rfl) hne fun j i hm => ?_⟩
  simp only [upd] at hm
  split at hm
  ·simp only [Ob.men, pC, Bool.or_eq_true] at hm
   refine hne i ?_
   rcases hm with hm | hm
   ·exact tD H.wfh hcv (fun i hm => H.wfh id i (by rw [ho]; exact nK hm)) i hm
   ·exact H.wfh id i (by rw [ho]; exact nL hm)
  ·exact hne i (H.wfh j i hm)
 ·funext o
  simp only [π']
  rw [if_neg]
  intro e
  exact hne (by rw [ho]; simp [bL, e])
 ·simp only [π'] at hk
  split at hk
  ·rename_i e; subst e
   split at hk
   ·rw [fI hw]
    simpa using hk
   ·cases hk
  ·exact H.rel.know _ _ _ hk
 ·rw [hrefl]
  refine ⟨vs, e, hw, hnew.mono hle fun _ _ => .inl rfl, fun c hc => ?_, fun j u hj hu => ?_, fun j hj => ?_⟩
  ·rcases List.mem_append.1 hc with hc | hc
   ·exact fF h1 c hc
   ·exact hone c (List.mem_of_mem_drop hc)
  ·simp only [π', if_true]; rw [if_pos hj]; exact hu
  ·simp only [π', if_true]; rw [if_neg (by omega)]
 ·rw [hrefl] at hb
  rw [ho]; exact .inl hb
theorem Le.conv {t : Nat} {s : Sp} {c : Prop} {g : G} (hcv : cvS σ.h s (σ.fr t) = some (c, g)) (hc : c) : Le C σ { σ with fr := upd σ.fr t g } := fun a w ⟨π, ρ, S, H⟩ =>
 ⟨π, ρ, S, H.size, fun k => by
  show aK π ρ E.yv (upd σ.fr t g k) _
  simp only [upd]
  split
  ·rename_i e; subst e
   exact aCG H.rel hcv hc (H.vals k)
  ·exact H.vals k, H.defs, H.rel, H.trans, H.step, fun k i hm => by
  replace hm : (upd σ.fr t g k).men i = true := hm
  simp only [upd] at hm
  split at hm
  ·exact aCH H.wfh hcv (H.wfr t) i hm
  ·exact H.wfr k i hm, H.wfh, H.wfd⟩
def xU (fr : Nat → G) (cl : Call) : Option GD := match cl.callee with
 | .value x => match gev fr x with
  | .p (.fn (.func f) a b) => some (.call f (a.map .p ++ cl.args.toList.map (gev fr)) (b.map .p))
  | .fn (.func f) a b => some (.call f (a ++ cl.args.toList.map (gev fr)) b)
  | _ => none
 | _ => none
theorem aEW {ops : Array Oper} {o : Oper} {cl : Call} {d : GD} {K : Sg E → Prop} {Q : GE → Sg E → Prop} (ho : o.op = .defer cl) (hw : dM ops σ.fr o = some true) (hd : xU σ.fr cl = some d) (hdst : o.dst = none)
  (hk : K { σ with df := d :: σ.df }) : qP C none ops o σ K Q := by
 intro a w ⟨π, ρ, S, H⟩ K' hK
 have hwt := fP H hw
 unfold wpO
 rw [hwt]
 simp only [if_true]
 refine ⟨fun f' hf' => (by rw [kR (fun cl => by rw [ho]; simp)] at hf'; cases hf'), ?_⟩
 obtain ⟨dst, op, ty, pos, af, gd⟩ := o
 simp only at ho hdst
 subst ho hdst
 obtain ⟨callee, ⟨args⟩, ats⟩ := cl
 have hargs := aQ.map_ev (fO H) args
 have hm : ∀ id, d.men id = true → σ.h id ≠ .none := fun id hm => by
  unfold xU at hd
  split at hd
  ·rename_i x hx
   simp only at hx
   have hx2 := tU H x id
   have ha : ∀ id, G.mens id (args.map (gev σ.fr)) = true → σ.h id ≠ .none := fun id hm => by
    obtain ⟨g, hg, hm⟩ := cA.1 hm
    obtain ⟨y, _, rfl⟩ := List.mem_map.1 hg
    exact tU H y id hm
   split at hd
   ·cases hd
    simp only [GD.men, pC, gO, Bool.false_or, Bool.or_false] at hm
    exact ha id hm
   ·rename_i f' as bs he
    cases hd
    rw [he] at hx2
    simp only [GD.men, pC, Bool.or_eq_true] at hm
    rcases hm with (hm | hm) | hm
    ·exact hx2 (by simp [G.men, hm])
    ·exact ha id hm
    ·exact hx2 (by simp [G.men, hm])
   ·cases hd
  ·cases hd
 have hrun : ∃ dd, (Oper.semAt (MF Pg none).round a.eval ⟨none, .defer ⟨callee, ⟨args⟩, ats⟩, ty, pos, af, gd⟩).run Pg w = .ok (.defer dd) w ∧ aGJ π ρ E.yv d dd := by
  unfold xU at hd
  split at hd
  ·rename_i x hx
   simp only at hx
   subst hx
   have hv := fO H x
   split at hd
   ·rename_i f' as bs he
    cases hd
    rw [he] at hv
    simp only [aK, aS] at hv
    obtain ⟨us, vs, hv, h1, h2⟩ := hv
    refine ⟨{ target := .fn (.func f') ⟨vs⟩, args := ⟨us ++ args.map a.eval⟩ }, ?_, _, _, rfl, (aQ.of_PRels h1).append hargs, aQ.of_PRels h2⟩
    rw [show (MF Pg none).round = none from rfl, Oper.semAt_none]
    simp [execOp, resolve, hv, Deferred.ofValue]
   ·rename_i f' as bs he
    cases hd
    rw [he] at hv
    simp only [aK] at hv
    obtain ⟨us, vs, hv, h1, h2⟩ := hv
    refine ⟨{ target := .fn (.func f') ⟨vs⟩, args := ⟨us ++ args.map a.eval⟩ }, ?_, _, _, rfl, h1.append hargs, h2⟩
    rw [show (MF Pg none).round = none from rfl, Oper.semAt_none]
    simp [execOp, resolve, hv, Deferred.ofValue]
   ·cases hd
  ·cases hd
 obtain ⟨dd, hrun, hdd⟩ := hrun
 rw [hrun]
 refine hK _ _ _ hk ⟨π, ρ, S, H.size, H.vals, ⟨dd, _, rfl, hdd, H.defs⟩, H.rel, H.trans, H.step, H.wfr, H.wfh, fun g hg id hi => ?_⟩
 rcases List.mem_cons.1 hg with rfl | hg
 ·exact hm id hi
 ·exact H.wfd g hg id hi
def aDK (π : PM) : Option P → FrameMode → Prop
 | none, u => u = .returning
 | some p, u => ∃ v, u = .panicking [{ v, recovered := false }] ∧ aS π p v
theorem aDK.run {md : Option P} {u : FrameMode} (h : aDK π md u) : u ≠ .run := by
 cases md with
 | none => rw [h]; simp
 | some p => obtain ⟨v, e, hv⟩ := h; rw [e]; simp
def kV (E : Env Pg) (f : FuncId) (args : List G) (h : Nat → Ob) (A : E.α) (md : Option P) (R : cK E → Prop) : Prop :=
 ∀ π ρ S w vs u, Rel E π ρ h A S w → aQ π ρ E.yv args vs → aDK π md u → CallsDIn (MF Pg none) 0 Pg f ⟨vs⟩ u w fun e u' w' => settle u' = .returning ∧ pX E π ρ h S w R e w'
def pJ : Option P → G
 | none => .p .niliface
 | some p => .p p
theorem aBx {md : Option P} {c : Frame} {cs : List Frame} (hm : aDK π md c.mode) :
  ∃ u' v, aK π ρ E.yv (pJ md) v ∧ settle u' = .returning ∧ ((recoverD (c :: cs) = some (v, { c with mode := u' } :: cs)) ∨ (recoverD (c :: cs) = none ∧ v = .nilIface ∧ u' = c.mode)) := by
 cases md with
 | none =>
  refine ⟨c.mode, .nilIface, by simp [pJ, aK, aS], ?_, .inr ⟨?_, rfl, rfl⟩⟩
  ·rw [show c.mode = .returning from hm]; rfl
  ·simp only [recoverD, show c.mode = .returning from hm]
 | some p =>
  obtain ⟨v, e, hv⟩ := hm
  refine ⟨.panicking [{ v, recovered := true }], v, by simpa only [pJ, aK] using hv, rfl, .inl ?_⟩
  simp only [recoverD, e]
def qB (o : Oper) : Bool := o.guard.isNone && match o.op with
 | .call cl => (match cl.callee with | .builtin .recover => true | _ => false)
 | _ => false
theorem aDL {o : Oper} (h : qB o = true) (w : World) : (execOp a.eval o).run Pg w = .ok .recover w ∧ o.about Pg w a.eval = none ∧ o.guard = none := by
 obtain ⟨dst, op, ty, pos, af, gd⟩ := o
 simp only [qB, Bool.and_eq_true, Option.isNone_iff_eq_none] at h
 obtain ⟨hg, h⟩ := h
 subst hg
 cases op <;> simp only [Bool.false_eq_true] at h
 rename_i cl
 obtain ⟨callee, args, ats⟩ := cl
 cases callee <;> simp only [Bool.false_eq_true] at h
 rename_i b
 cases b <;> simp only [Bool.false_eq_true] at h
 refine ⟨?_, ?_, rfl⟩
 ·simp [execOp, resolve, Deferred.ofValue, invoke, builtin]
 ·simp [Oper.about, resolve, Target.leads]
theorem uO {ops : Array Oper} {rc : Oper} {rest : List Oper} {id : Nat} {Q : Exit → Act → List Frame → World → Prop} {cs cs' : List Frame} {v : Value} (hops : ops.toList = rc :: rest) (hrc : qB rc = true)
  (hrec : recoverD cs = some (v, cs') ∨ (recoverD cs = none ∧ v = .nilIface ∧ cs' = cs)) (h : wpListIn (MF Pg none) 0 Pg ops (fun e a w => Q e a cs' w) rest (a.put rc.dst v) w) : (Code.region id ops false).wpSIn (MF Pg none) 0 Pg Q a cs w := by
 intro b k hb hro hF hroom
 have hlen : cs'.length = cs.length := by
  rcases hrec with h | ⟨_, _, h⟩
  ·exact recoverD_length h
  ·rw [h]
 have ho : ops[0]? = some rc := by rw [← Array.getElem?_toList, hops]; rfl
 have hsz : ops.size = rest.length + 1 := by rw [← Array.length_toList, hops]; rfl
 have hrange : List.range ops.size = 0 :: List.range' 1 rest.length := by rw [List.range_eq_range', hsz, List.range'_succ]
 obtain ⟨hrun, hab, hgd⟩ := aDL (Pg := Pg) (a := a) hrc w
 have hlist : wpOpsIn (MF Pg none) 0 Pg ops (fun e a w => Q e a cs' w) (List.range' 1 rest.length) (a.put rc.dst v) w := by
  rw [wpOpsIn_eq_wpListIn rest 1 (fun j => by rw [← Array.getElem?_toList, hops, Nat.add_comm]; simp)]
  exact h
 have s0 : StepsIn (Machine.fenced Pg (MF Pg none)) Pg (lone (b.atR a (.code (.region id ops false) :: k)) cs w) (lone (b.atR a (.inRegion ops (List.range ops.size) :: k)) cs w) := .one (fenced_calm hF hroom rfl) stepR_region
 have hwt : Region.wanted rc (yielded ops a.tmps) = true := by simp [Region.wanted, hgd]
 have h0 : (lone (b.atR a (.inRegion ops (0 :: List.range' 1 rest.length) :: k)) cs w).fenced Pg (MF Pg none) := fenced_oper hF hroom ho (fun f hf => by rw [hab] at hf; cases hf)
 have hg := stepGR_op (P := Pg) (b := b) (a := a) (k := k) (cs := cs) (w := w) (rest := List.range' 1 rest.length) ho hwt
 rw [hro, Oper.semAt_none] at hg
 have hfin : ∀ v, (b.atR a (.inRegion ops (0 :: List.range' 1 rest.length) :: k)).finish v = b.atR (a.put rc.dst v) (.inRegion ops (List.range' 1 rest.length) :: k) := by
  intro v; rw [Frame.finish_atR, ho]; rfl
 have hk : (b.atR a (.inRegion ops (0 :: List.range' 1 rest.length) :: k)).kind = .deferred := hb
 have htr := tryRecover_deferred hk cs
 have hstep : step Pg (lone (b.atR a (.inRegion ops (0 :: List.range' 1 rest.length) :: k)) cs w) = .next (lone (b.atR (a.put rc.dst v) (.inRegion ops (List.range' 1 rest.length) :: k)) cs' w) := by
  refine step_lone_go ?_
  rw [hg, ← hfin]
  simp only [Frame.atR, hro] at htr ⊢
  rcases hrec with hr | ⟨hr, rfl, rfl⟩
  ·simp [stepG.apply, hrun, htr, hr]
  ·simp [stepG.apply, hrun, htr, hr]
 obtain ⟨e, a', w', hq, harr⟩ := wp_opsIn _ _ _ hlist b k cs' hro hF (hlen ▸ hroom)
 rw [hrange] at s0
 exact ⟨e, a', cs', w', hlen, hq, .of_steps (StepsIn.trans s0 (.one h0 hstep)) harr⟩
end
section
open Go.RowKit
variable {Pg : Program} [Kn Pg] {E : Env Pg} {C : Cx E} {σ : Sg E} {a : Act} {w w' : World} {π π' : PM} {ρ ρ' : RM} {S S' : Nat → Prop} {r : Option Nat}
theorem Fin.out {fn : Func} {R : cK E → Prop} {h : Nat → Ob} {N : Nat} {hl : N ≤ 90000} (h100 : N = 100) (hF : Fin Pg fn R σ) (H : St (⟨Own ρ h S, w, π, ρ, fn.ntmps, N, hl⟩ : Cx E) σ a w' π' ρ' S') :
  a.defers = [] ∧ ∃ v, (results fn a.tmps).run Pg w' = .ok v w' ∧ pX E π ρ h S w R (.returned v) w' := by
 subst h100
 obtain ⟨hdf, c, g, hg, hc, g', h', hgg, hs, hm', hR⟩ := hF
 have hd := H.defs
 rw [hdf] at hd
 obtain ⟨⟨v, hv, hr⟩, hm⟩ := aAH H hg hc
 have hr' : aK π' ρ' E.yv g' v := by
  rcases hgg with rfl | ⟨c', p, h1, h2, rfl⟩
  ·exact hr
  ·simp only [aK]; exact fJ H.rel h1 h2 hr
 exact ⟨hd, v, hv, π', ρ', h', σ.A, S', g', lD.sub ⟨H.rel, H.trans, H.step, H.wfh⟩ hs, hr', hm', hR⟩
def aIB (Pg : Program) [Kn Pg] {E : Env Pg} (fn : Func) (R : cK E → Prop) : GE → Sg E → Prop
 | .normal, σ => Fin Pg fn R σ
 | .ret, σ => Fin Pg fn R σ
 | _, _ => False
def aMo (rc : Oper) (args : List G) (h : Nat → Ob) (A : E.α) (md : Option P) : Sg E := ⟨vC (aBv args) rc.dst (pJ md), h, A, []⟩
theorem aGW {F : Fence} {n : Nat} {o : Oper} {K K' : Act → World → Prop} {Q Q' : Exit → Act → World → Prop} (h : ∀ a w, K a w → K' a w) (hq : ∀ e a w, Q e a w → Q' e a w) (hh : o.wpIn F n Pg a w K Q) : o.wpIn F n Pg a w K' Q' := by
 unfold Oper.wpIn at *
 refine ⟨hh.1, ?_⟩
 have hh := hh.2
 have hl : LetsOut Q → LetsOut Q' := fun ⟨a, w, k⟩ => ⟨a, w, hq _ _ _ k⟩
 generalize (o.semAt F.round a.eval).run Pg w = r at *
 cases r with
 | ok x w' =>
  cases x <;> simp only [Oper.uponIn] at hh ⊢ <;>
   first
    | exact h _ _ hh
    | exact ⟨hh.1, CallsIn.mono hh.2 (fun e w'' he => by cases e <;> first | exact h _ _ he | exact hq _ _ _ he | exact hl he)⟩
    | exact ⟨hh.1, RowsIn.mono hh.2 (fun _ _ he => h _ _ he)⟩
    | exact ⟨hh.1, RoundIn.mono hh.2 (fun e w'' he => by cases e <;> first | exact h _ _ he | exact hq _ _ _ he | exact hl he)⟩
 | halt x w' => cases x <;> simp only [Oper.uponIn] at hh ⊢ <;> first | exact hq _ _ _ hh | exact hh
theorem kO {ops : Array Oper} {Q Q' : Exit → Act → World → Prop} (hq : ∀ e a w, Q e a w → Q' e a w) : ∀ {l : List Oper} {a : Act} {w : World}, wpListIn (MF Pg none) 0 Pg ops Q l a w → wpListIn (MF Pg none) 0 Pg ops Q' l a w
 | [], a, w, h => hq _ _ _ h
 | o :: l, a, w, h => by
  simp only [wpListIn] at h ⊢
  split at h
  ·rename_i hw; rw [if_pos hw]
   exact aGW (fun a w k => kO hq k) hq h
  ·rename_i hw; rw [if_neg hw]
   exact ⟨h.1, kO hq h.2⟩
def aLv (id : Nat) (ops : Array Oper) : Option Code → Code
 | none => .region id ops false
 | some c2 => .seq (.region id ops false) c2
def aLw (C : Cx E) (fn : Func) (R : cK E → Prop) : Option Code → GE → Sg E → Prop
 | none => aIB Pg fn R
 | some c2 => vY (gwp C none c2 (aIB Pg fn R)) (aIB Pg fn R)
theorem aEX {f : FuncId} {fn : Func} {c : Code} {args : List G} {h : Nat → Ob} {A : E.α} {md : Option P} {R : cK E → Prop} {id : Nat} {ops : Array Oper} {rc : Oper} {rest : List Oper} (hf : Pg.funcs[f]? = some fn) (hb : fn.body = some c)
  (hops : ops.toList = rc :: rest) (hrc : qB rc = true) (hN : args.length ≤ fn.ntmps) (hdst : ∀ t, rc.dst = some t → t < fn.ntmps) (w1 : ∀ g ∈ args, ∀ id, g.men id = true → h id ≠ .none) (w2 : ∀ j id, (h j).men id = true → h id ≠ .none)
  (c2 : Option Code) (hc : c = aLv id ops c2)
  (hbody : ∀ C : Cx E, C.N = fn.ntmps → C.lim = 100 → cJ C none ops (aLw C fn R c2) rest (aMo rc args h A md)) : kV E f args h A md R := by
 intro π ρ S w vs u hR hv hm
 refine callsDIn_of_wpSIn hf hb trivial fun c0 cs hu => ?_
 have hs := St.start (f := f) hR hv hN w1 w2
 let C : Cx E := ⟨Own ρ h S, w, π, ρ, fn.ntmps, 100, by omega⟩
 obtain ⟨u', v, hrv, hset, hrec⟩ := aBx (E := E) (ρ := ρ) (c := c0) (cs := cs) (md := md) (hu ▸ hm)
 have hs2 := hs.putReg (dst := rc.dst) (g := pJ md) (v := v) (fun t ht => hdst t ht) hrv (fun id hx => by cases md <;> simp [pJ, G.men] at hx)
 have hrec2 : recoverD (c0 :: cs) = some (v, { c0 with mode := u' } :: cs) ∨ (recoverD (c0 :: cs) = none ∧ v = .nilIface ∧ { c0 with mode := u' } :: cs = c0 :: cs) := by
  rcases hrec with h | ⟨h, e, rfl⟩
  ·exact .inl h
  ·exact .inr ⟨h, e, rfl⟩
 have hrun := (hbody C rfl rfl).run (Act.put { tmps := ⟨vs⟩ ++ Array.replicate (fn.ntmps - (Array.mk vs).size) undef, defers := [] } rc.dst v) w ⟨π, ρ, S, hs2⟩
 have fin : ∀ (e : Exit) a' w', cD C (aIB Pg fn R) e a' w' → bodyPostS Pg fn c0 cs (fun e u' w' => settle u' = .returning ∧ pX E π ρ h S w R e w') e a' ({ c0 with mode := u' } :: cs) w' := fun e a' w' k => by
  cases e with
  | normal =>
   obtain ⟨σ, ⟨π', ρ', S', H⟩, hq⟩ := k
   obtain ⟨hd, v, hv, hp⟩ := Fin.out rfl hq H
   exact ⟨hd, u', rfl, v, hv, hset, hp⟩
  | ret =>
   obtain ⟨σ, ⟨π', ρ', S', H⟩, hq⟩ := k
   obtain ⟨hd, v, hv, hp⟩ := Fin.out rfl hq H
   exact ⟨hd, u', rfl, v, hv, hset, hp⟩
  | panic ch => obtain ⟨_, _, _, _, _, _, _, _, _, hq⟩ := k; exact hq.elim
  | exit id => obtain ⟨_, _, hq⟩ := k; exact hq.elim
  | goto id => obtain ⟨_, _, hq⟩ := k; exact hq.elim
  | outgrown => exact k.elim
 cases c2 with
 | none =>
  subst hc
  refine uO hops hrc hrec2 ?_
  refine kO (fun e a' w' k => fin e a' w' k) hrun
 | some c2 =>
  subst hc
  refine wpSIn_seq (uO hops hrc hrec2 (kO (fun e a' w' k => ?_) hrun))
  cases e with
  | normal =>
   obtain ⟨σ1, H1, hq⟩ := k
   exact wpSIn_of_wpIn rfl (wpIn_mono (gwp.run hq a' w' H1) fun e a' w' k => fin e a' w' k)
  | panic ch => obtain ⟨_, _, _, _, _, _, _, _, _, hq⟩ := k; exact hq.elim
  | exit id => obtain ⟨_, _, hq⟩ := k; exact hq.elim
  | goto id => obtain ⟨_, _, hq⟩ := k; exact hq.elim
  | ret => exact fin .ret _ _ k
  | outgrown => exact k.elim
def qS (Pg : Program) [Kn Pg] {E : Env Pg} (fn : Func) (R : cK E → Prop) : List GD → Option P → (Nat → G) → (Nat → Ob) → E.α → Prop
 | [], none, fr, h, A => Fin Pg fn R ⟨fr, h, A, []⟩
 | [], some p, fr, h, A => ∃ h', Sub h' h ∧ R (.panic p h' A)
 | .mark id :: ds, md, fr, h, A => h id = .mark ∧ (∀ t, (fr t).men id = false) ∧ (∀ j, (h j).men id = false) ∧ (∀ g ∈ ds, g.men id = false) ∧ qS Pg fn R ds md fr (upd h id .none) A
 | .call f args caps :: ds, md, fr, h, A => aJ Pg f ∧ ∃ J c args' L hc R2, nY (rhp h J) (args ++ caps) = (c, G.rens (cZ L) args') ∧ c ∧ kT 100 L h hc ∧ kV E f args' hc A md R2 ∧
   (∀ g h' A', R2 (.ok g h' A') → gG L hc h' ∧ qS Pg fn R ds none fr (cS h (cQ L h')) A') ∧ ∀ p h' A', ¬ R2 (.panic p h' A')
theorem iW {fn : Func} {R : cK E → Prop} {h : Nat → Ob} {N : Nat} {hl : N ≤ 90000} (h100 : N = 100) : ∀ (df : List GD) {md : Option P} {fr : Nat → G} {h1 : Nat → Ob} {A1 : E.α} {ds : List Deferred} {u : FrameMode} {w' : World} {π' : PM} {ρ' : RM} {S' : Nat → Prop},
  qS Pg fn R df md fr h1 A1 → St (⟨Own ρ h S, w, π, ρ, fn.ntmps, N, hl⟩ : Cx E) ⟨fr, h1, A1, df⟩ ⟨a.tmps, ds⟩ w' π' ρ' S' → aDK π' md u → LeavesInM (MF Pg none) 0 Pg fn a.tmps (pX E π ρ h S w R) ds u w'
 | [], none, fr, h1, A1, ds, u, w', π', ρ', S', hG, H, hm => by
  obtain ⟨hd, v, hv, hp⟩ := Fin.out h100 hG H
  have hd : ds = [] := hd
  have hu : u = .returning := hm
  subst hd hu
  exact ⟨v, hv, hp⟩
 | [], some p, fr, h1, A1, ds, u, w', π', ρ', S', hG, H, hm => by
  have hd : ds = [] := H.defs
  subst hd
  obtain ⟨v, rfl, hv⟩ := hm
  obtain ⟨h', hs, hR⟩ := hG
  subst h100
  exact ⟨π', ρ', h', A1, S', p, v, lD.sub ⟨H.rel, H.trans, H.step, H.wfh⟩ hs, rfl, hv, hR⟩
 | .mark id :: df, md, fr, h1, A1, ds, u, w', π', ρ', S', hG, H, hm => by
  obtain ⟨g1, g2, g3, g4, g5⟩ := hG
  obtain ⟨d, ds', hds, hd, hrest⟩ := H.defs
  have hds : ds = d :: ds' := hds
  subst hds
  simp only [aGJ] at hd
  subst hd
  have hob : jZ π' ρ' E.yv w' id (h1 id) := H.rel.objs id
  rw [g1] at hob
  have hlt := (Array.getElem?_eq_some_iff.1 hob).1
  refine ⟨hm.run, .inl ⟨_, _, rfl, run_takeDeferred hob, ?_⟩⟩
  have hrefl : upd ρ' id (ρ' id) = ρ' := by funext j; unfold upd; split <;> simp_all
  have T := H.rel.turn (w' := w'.putObj (ρ' id).blk (.deferred none)) (π' := π') id (ρ' id) .none (by simp) rfl rfl rfl (fun b _ hne => ⟨World.putObj_heap_other fun e => hne (by show bL ρ' id (h1 id) = some b; rw [g1]; simp [bL, e]), rfl⟩) (PM.le_refl _)
   (wD H.rel.know fun o ho => by rw [hob] at ho; cases ho; rfl) (fun _ _ _ => .inl rfl) trivial (fun b hb => by simp [bL] at hb)
  rw [hrefl] at T
  have hne : ∀ i, i ≠ id → h1 i ≠ .none → upd h1 id Ob.none i ≠ .none := fun i hi h => by rw [aZ _ _ hi]; exact h
  refine iW h100 df g5 (S' := S') ⟨H.size, H.vals, hrest, T.1, H.trans.trans T.2, H.step, fun t i hx => hne i (fun e => ?_) (H.wfr t i hx), fun j i hx => ?_, fun g hg i hx => hne i (fun e => ?_) (H.wfd g (List.mem_cons_of_mem _ hg) i hx)⟩ hm
  ·subst e; rw [g2 t] at hx; cases hx
  ·simp only [upd] at hx
   split at hx
   ·simp [Ob.men] at hx
   ·exact hne i (fun e => by subst e; rw [g3 j] at hx; cases hx) (H.wfh j i hx)
  ·subst e; rw [g4 g hg] at hx; cases hx
 | .call f args caps :: df, md, fr, h1, A1, ds, u, w', π', ρ', S', hG, H, hm => by
  obtain ⟨hent, J, c, args', L, hc, R2, hcv, hcc, hp, hspec, hok, hpa⟩ := hG
  obtain ⟨d, ds', hds, hd, hrest⟩ := H.defs
  have hds : ds = d :: ds' := hds
  subst hds
  obtain ⟨vs, us, rfl, hvs, hus⟩ := hd
  have hv := aAa (H.rel.restrict J) (hvs.append hus) (by rw [hcv]; exact hcc)
  rw [hcv] at hv
  subst h100
  have H0 : St (⟨Own ρ h S, w, π, ρ, fn.ntmps, 100, hl⟩ : Cx E) ⟨fr, h1, A1, df⟩ ⟨a.tmps, ds'⟩ w' π' ρ' S' := ⟨H.size, H.vals, hrest, H.rel, H.trans, H.step, H.wfr, H.wfh, fun g hg => H.wfd g (List.mem_cons_of_mem _ hg)⟩
  refine ⟨hm.run, .inr ⟨fun h => by simp [Fence.wide] at h, _, _, f, ⟨vs ++ us⟩, rfl, ?_, fun _ _ => trivial, ?_⟩⟩
  ·have := hent (⟨vs ++ us⟩) w'
   simpa [invoke] using this
  ·refine (hspec π' _ S' w' (vs ++ us) u (H.rel.hand hp) (gD.1 hv) hm).mono fun e u' w2 ⟨hset, k⟩ => ?_
   cases e with
   | outgrown => exact k.elim
   | panicked ch => obtain ⟨_, _, _, _, _, _, _, _, _, _, hq⟩ := k; exact (hpa _ _ _ hq).elim
   | returned v =>
    obtain ⟨π2, ρ2, h', A', S2, g, hB, _, _, hR2⟩ := k
    obtain ⟨hb, hG2⟩ := hok g h' A' hR2
    exact iW rfl df hG2 (H0.back hp hb hB) hset
def aEY (Pg : Program) [Kn Pg] {E : Env Pg} (fn : Func) (R : cK E → Prop) : GE → Sg E → Prop
 | .normal, σ => qS Pg fn R σ.df none σ.fr σ.h σ.A
 | .ret, σ => qS Pg fn R σ.df none σ.fr σ.h σ.A
 | .panic p, σ => qS Pg fn R σ.df (some p) σ.fr σ.h σ.A
 | _, _ => False
theorem aIC {f : FuncId} {fn : Func} {c : Code} {args : List G} {h : Nat → Ob} {A : E.α} {R : cK E → Prop} (hf : Pg.funcs[f]? = some fn) (hb : fn.body = some c) (hN : args.length ≤ fn.ntmps) (w1 : ∀ g ∈ args, ∀ id, g.men id = true → h id ≠ .none)
  (w2 : ∀ j id, (h j).men id = true → h id ≠ .none) (hbody : ∀ C : Cx E, C.N = fn.ntmps → C.lim = 100 → gwp C none c (aEY Pg fn R) ⟨aBv args, h, A, []⟩) : bE E f args h A R := by
 intro π ρ S w vs hR hv
 refine callsIn_of_wp_marks hf hb trivial ?_
 have hs := St.start (f := f) hR hv hN w1 w2
 refine wpIn_mono ((hbody ⟨Own ρ h S, w, π, ρ, fn.ntmps, 100, by omega⟩ rfl rfl).run _ _ ⟨π, ρ, S, hs⟩) fun e a' w' k => ?_
 cases e with
 | normal => obtain ⟨σ, ⟨π', ρ', S', H⟩, hq⟩ := k; exact iW rfl σ.df hq H rfl
 | ret => obtain ⟨σ, ⟨π', ρ', S', H⟩, hq⟩ := k; exact iW rfl σ.df hq H rfl
 | panic ch =>
  obtain ⟨σ, p, v, π', ρ', S', rfl, hp, H, hq⟩ := k
  exact iW rfl σ.df hq H ⟨v, rfl, hp⟩
 | exit id => obtain ⟨σ, _, hq⟩ := k; exact hq.elim
 | goto l => obtain ⟨σ, _, hq⟩ := k; exact hq.elim
 | outgrown => exact k.elim
theorem aID {f : FuncId} {fn : Func} {c : Code} {args : List G} {h : Nat → Ob} {A : E.α} {R : cK E → Prop} (hf : Pg.funcs[f]? = some fn) (hb : fn.body = some c) (hN : args.length ≤ fn.ntmps) (w1 : ∀ g ∈ args, ∀ id, g.men id = true → h id ≠ .none)
  (w2 : ∀ j id, (h j).men id = true → h id ≠ .none) (hbody : ∀ C : Cx E, C.N = fn.ntmps → C.lim = 100 → qR true C none c (aEY Pg fn R) ⟨aBv args, h, A, []⟩) : bE E f args h A R := by
 intro π ρ S w vs hR hv
 refine aAT hf hb ?_
 have hs := St.start (f := f) hR hv hN w1 w2
 refine aAS ((hbody ⟨Own ρ h S, w, π, ρ, fn.ntmps, 100, by omega⟩ rfl rfl).run _ _ ⟨π, ρ, S, hs⟩) fun e a' w' k => ?_
 cases e with
 | normal => obtain ⟨σ, ⟨π', ρ', S', H⟩, hq⟩ := k; exact iW rfl σ.df hq H rfl
 | ret => obtain ⟨σ, ⟨π', ρ', S', H⟩, hq⟩ := k; exact iW rfl σ.df hq H rfl
 | panic ch =>
  obtain ⟨σ, p, v, π', ρ', S', rfl, hp, H, hq⟩ := k
  exact iW rfl σ.df hq H ⟨v, rfl, hp⟩
 | exit id => obtain ⟨σ, _, hq⟩ := k; exact hq.elim
 | goto l => obtain ⟨σ, _, hq⟩ := k; exact hq.elim
 | outgrown => exact k.elim
end
section
open Go.RowKit
variable {Pg : Program} [Kn Pg] {E : Env Pg} {C : Cx E} {r : Option Nat} {ops : Array Oper} {Q : GE → Sg E → Prop} {l l' : List (Nat × G)} {m m' : List (Nat × Ob)} {A : E.α} {df : List GD} {σ σ0 : Sg E} {c : Code} {rest : List Oper} {cp : Prop}
theorem aGX (id n : Nat) (ss : List Sp) {cs cs1 cs2 : List G} {fz : Nat} (ho : aG m id = .cells cs fz) (hcv : hZ (aG m) ss (cs.take n) = some (cp, cs1)) (he : cs1 ++ cs.drop n = cs2) (hn : fz ≤ n) (hn2 : n ≤ cs.length) (hc : cp) (h1 : bB cs1 = true)
  (k : gwp C r c Q (sg l ((id, .cells cs2 n) :: m) A df)) : gwp C r c Q (sg l m A df) :=
 pH (Le.freeze (σ := sg l m A df) ho hn hn2 hcv hc h1) (by subst he; exact k)
theorem aKv (t : Nat) (s : Sp) {g : G} (hcv : cvS (aG m) s (bA l t) = some (cp, g)) (hc : cp) (k : gwp C r c Q (sg ((t, g) :: l) m A df)) : gwp C r c Q (sg l m A df) := pH (Le.conv (σ := sg l m A df) hcv hc) k
theorem aKw {lst : List Oper} (t : Nat) (s : Sp) {g : G} (hcv : cvS (aG m) s (bA l t) = some (cp, g)) (hc : cp) (k : cJ C r ops Q lst (sg ((t, g) :: l) m A df)) : cJ C r ops Q lst (sg l m A df) := aCw (Le.conv (σ := sg l m A df) hcv hc) k
section
variable {b : Frame} {a : Act} {k : List Item} {cs : List Frame} {w : World} {F : Fence} {n : Nat}
theorem iX {c : Code} : step Pg (lone (b.atR a (.code (.scope c) :: k)) cs w) = .next (lone (b.atR a (.code c :: .inScope c :: k)) cs w) := step_lone_go (by simp [stepG, stepG.exec, Frame.atR])
theorem aBy {c : Code} : step Pg (lone (b.atR a (.inScope c :: k)) cs w) = .next (lone (b.atR a k) cs w) := step_lone_go (by simp [stepG, stepG.exec, Frame.atR])
def aMp (Q : Exit → Act → World → Prop) : Exit → Act → World → Prop
 | .goto _, _, _ => False
 | e, a, w => Q e a w
theorem aEZ {c : Code} {Q : Exit → Act → World → Prop} (h : c.wpIn F n Pg (aMp Q) a w) : (Code.scope c).wpIn F n Pg Q a w := by
 intro b k cs hro hb hr
 have h0 : (lone (b.atR a (.code (.scope c) :: k)) cs w).fenced Pg F := fenced_calm hb hr rfl
 obtain ⟨e, a₁, w₁, hq, harr⟩ := h b (.inScope c :: k) cs hro hb hr
 cases e with
 | normal => exact ⟨.normal, a₁, w₁, hq, .head h0 iX (StepsIn.trans harr (.one (fenced_calm hb hr rfl) aBy))⟩
 | exit id' =>
  have hx : exitTo id' (.inScope c :: k) = exitTo id' k := by simp [exitTo]
  exact ⟨.exit id', a₁, w₁, hq, fun k' hk => .head h0 iX (harr.1 k' (by rw [hx]; exact hk)),
   fun hr' hk => let ⟨k₁, h1, h2⟩ := harr.2 hr' (by rw [hx]; exact hk); ⟨k₁, h1, .head h0 iX h2⟩⟩
 | goto l => exact hq.elim
 | ret => exact ⟨_, a₁, w₁, hq, .of_steps (.one h0 iX) harr⟩
 | panic ch => exact ⟨_, a₁, w₁, hq, .of_steps (.one h0 iX) harr⟩
 | outgrown => exact ⟨_, a₁, w₁, hq, .of_steps (.one h0 iX) harr⟩
end
def wF (Q : GE → Sg E → Prop) : GE → Sg E → Prop
 | .goto _, _ => False
 | e, σ => Q e σ
theorem aBW (h : gwp C r c (wF Q) σ) : gwp C r (.scope c) Q σ := ⟨fun a w H => aEZ (wpIn_mono (h.run a w H) fun e a' w' k => by
 cases e with
 | goto l => obtain ⟨_, _, hq⟩ := k; exact hq.elim
 | _ => exact k)⟩
theorem aD (h : Q .ret σ) : wF Q .ret σ := h
theorem bK (h : Q .normal σ) : wF Q .normal σ := h
theorem aY {i : Nat} (h : Q (.exit i) σ) : wF Q (.exit i) σ := h
theorem aW {p : P} (h : Q (.panic p) σ) : wF Q (.panic p) σ := h
theorem aIE {cl : Call} {d : GD} {ty : TypeId} {pos : String} {af : Array Edge} (hd : xU (bA l) cl = some d) (k : cJ C none ops Q rest (sg l m A (d :: df))) : cJ C none ops Q (⟨none, .defer cl, ty, pos, af, none⟩ :: rest) (sg l m A df) :=
 pG (aEW (o := ⟨none, .defer cl, ty, pos, af, none⟩) rfl (bJ rfl) hd rfl k)
theorem aIF {cl : Call} {gs : List G} {xs : List P} {J : List Nat} {x : Operand} {t : Nat} {ty : TypeId} {pos : String} {af : Array Edge} (hx : cl.callee = .value x) (hy : gev (bA l) x = .abs) (hgs : cl.args.toList.map (gev (bA l)) = gs)
  (hcv : nY (rhp (aG m) J) gs = (cp, xs.map .p)) (hc : cp) (hcan : E.Can A (xs.map Y0.p)) (ht : t < C.N) (hk : ∀ b A', E.Y A (xs.map Y0.p) (.b b) A' → cJ C r ops Q rest (sg ((t, .p (.bool b)) :: l) m A' df)) (hpa : ∀ p A', E.Y A (xs.map Y0.p) (.p p) A' → Q (.panic p) (sg l m A' df)) :
  cJ C r ops Q (⟨some t, .call cl, ty, pos, af, none⟩ :: rest) (sg l m A df) :=
 pG (aET (o := ⟨some t, .call cl, ty, pos, af, none⟩) (σ := sg l m A df) rfl hx (bJ rfl) hy hgs hcv hc hcan (fun t' e => by cases e; exact ht) (fun b A' h => hk b A' h) (fun p A' h => hpa p A' h))
theorem kG (l : List P) (i : Nat) (v : P) : (l.map G.p).set i (.p v) = (l.set i v).map G.p := by rw [List.map_set]
theorem gT (k : IntKind) (l : List Int) (i : Nat) (x : Int) : (l.map (P.int k)).set i (.int k x) = (l.set i x).map (P.int k) := by rw [List.map_set]
theorem eqI {a b : Int} : a = b ↔ (a ≤ b ∧ b ≤ a) := by omega
theorem aBX {i : Nat} : ∀ {m : List (Nat × Ob)}, aG m i ≠ .none → i ∈ m.map (·.1)
 | [], h => absurd rfl h
 | (j, o) :: m, h => by
  rw [aE] at h
  simp only [List.map_cons, List.mem_cons]
  split at h
  ·exact .inl (by assumption)
  ·exact .inr (aBX h)
theorem aMq {args : List G} {id : Nat} (h1 : dU (G.idls args) (m.map (·.1)) = true) (h2 : ∀ i ∈ m.map (·.1), aG m i ≠ .none) (h : G.mens id args = true) : aG m id ≠ .none := by
 simp only [dU, List.all_eq_true, decide_eq_true_eq] at h1
 exact h2 id (h1 id (gS h))
theorem aMr {j id : Nat} (h1 : dU (bM m (m.map (·.1))) (m.map (·.1)) = true) (h2 : ∀ i ∈ m.map (·.1), aG m i ≠ .none) (h : (aG m j).men id = true) : aG m id ≠ .none := by
 simp only [dU, List.all_eq_true, decide_eq_true_eq] at h1
 refine h2 id (h1 id (pI (aBX fun e => ?_) h))
 rw [e] at h; simp [Ob.men] at h
def zA (m : List (Nat × Ob)) (N : Nat) : Bool := m.all fun p => decide (p.1 < N)
theorem aBY {N i : Nat} (h : zA m N = true) (hi : aG m i ≠ .none) : i < N := by
 obtain ⟨p, hp, rfl⟩ := List.mem_map.1 (aBX hi)
 simpa using List.all_eq_true.1 h p hp
def zB (m : List (Nat × Ob)) (I : List Nat) : Prop := ∀ i ∈ I, aG m i ≠ .none
structure wG (l : List (Nat × G)) (df : List GD) (lim d : Nat) (m : List (Nat × Ob)) : Prop where
 fr : zB m (eX l)
 df : zB m (dP df)
 lt : zA m lim = true
 d : aG m d = .none
theorem wG.wf {L : Lo C} {lim d : Nat} (h : wG l df lim d m) (hf : L.fr = bA l) (hd : L.df = df) : L.wf (aG m) := by
 refine ⟨fun t id hm => h.fr id (aCz (hf ▸ hm)), fun g hg id hm => h.df id (xQ (hd ▸ hg) hm)⟩
theorem aGY {Z : Type} {e : Bool} {ps : Array Nat} {g : Operand} {assign body : Code} {f : FuncId} {ga gb aa ab : List G} {ca cb : Prop} (lim d : Nat) (psl : List Nat) (xs : List (List Y0)) (tail : Option P) (pan : Bool) (I : Nat → Z → E.α → Prop) (mI : Z → List (Nat × Ob)) (K : GE → Z → E.α → Prop) (mK : GE → Z → List (Nat × Ob)) (KP : P → Z → E.α → Prop) (mP : P → Z → List (Nat × Ob)) (ka kb : List Sp)
  (it : aAO Pg f (aa ++ (.abs :: ab)) xs tail pan) (hent : aJ Pg f) (hg : oF (bA l) g = some (f, ga, gb)) (hca : hZ (aG m) ka ga = some (ca, aa)) (hcb : hZ (aG m) kb gb = some (cb, ab)) (hia : imm.imms aa = true) (hib : imm.imms ab = true) (h1 : ca) (h2 : cb)
  (hps : ps.toList = psl) (hlim : C.lim ≤ lim) (hlim2 : lim ≤ 90000) (hpn : ∀ p ∈ psl, p < C.N) (hlen : ∀ x ∈ xs, x.length = psl.length) (hd : C.lim ≤ d) (wI : ∀ k z A, I k z A → wG l df lim d (mI z)) (wK : ∀ e z A, K e z A → wG l df lim d (mK e z)) (hshp : ∀ x ∈ xs, (∃ ys : List P, x = ys.map Y0.p) ∨ ∃ cs, x = [.o cs]) (wP : ∀ p z A, KP p z A → pan = true ∧ wG l df lim d (mP p z))
  (h0 : ∃ z, I 0 z A ∧ mI z = m)
  (round : ∀ k z A' x, I k z A' → xs[k]? = some x → ∀ (lp : Nat) (bs : List (Nat × Obj)) (C1 : Cx (E.guard bs)), C1.N = C.N → C1.lim = lim →
   gwp C1 (some lp) assign (fun e σ => e = .normal ∧ ∀ (bs : List (Nat × Obj)) (C2 : Cx (E.guard bs)), C2.N = C.N → C2.lim = lim → (∃ r0, (lp, Obj.loop r0) ∈ bs) → gwp C2 (some lp) body (fun e σ => match e with
    | .normal => ∃ σ3 z, Le C2 σ σ3 ∧ σ3.h = aG (mI z) ∧ I (k + 1) z σ3.A
    | .panic p => σ.df = [] ∧ ∃ z, Sub (aG (mP p z)) σ.h ∧ KP p z σ.A
    | e => ∃ σ3 z, Le C2 σ σ3 ∧ σ3.h = aG (mK e z) ∧ K e z σ3.A) ⟨σ.fr, σ.h, σ.A, σ.df⟩) ⟨zP (bA l) psl x, qA (aG (mI z)) x, A', []⟩)
  (hK : ∀ e z A', K e z A' → Q e (sg l ((d, .mark) :: mK e z) A' (.mark d :: df))) (hP : ∀ p z A', KP p z A' → Q (.panic p) (sg l ((d, .mark) :: mP p z) A' (.mark d :: df))) (hT : ∀ p z A', tail = some p → I xs.length z A' → Q (.panic p) (sg l ((d, .mark) :: mI z) A' (.mark d :: df))) (hI : ∀ z A', tail = none → I xs.length z A' → Q .normal (sg l ((d, .mark) :: mI z) A' (.mark d :: df)))
  (he : pan = true → e = true) : qR e C none (.rangeFunc g ps assign body) Q (sg l m A df) := by
 let L : Lo C := { fr := bA l, df := df, ps := psl, assign, body, xs, tail, pan, lim, KP := fun p h A => ∃ z, h = aG (mP p z) ∧ KP p z A, I := fun k h A => ∃ z, h = aG (mI z) ∧ I k z A, K := fun e h A => ∃ z, h = aG (mK e z) ∧ K e z A }
 have ok : L.Ok := by
  refine ⟨hlim, hlim2, hpn, hlen, hshp, ?_, ?_, ?_, ?_⟩
  ·rintro k h A ⟨z, rfl, hI⟩
   exact ⟨(wI k z A hI).wf (L := L) rfl rfl, fun id => aBY (wI k z A hI).lt⟩
  ·rintro e h A ⟨z, rfl, hK⟩
   exact (wK e z A hK).wf (L := L) rfl rfl
  ·rintro p h A ⟨z, rfl, hK⟩
   exact ⟨(wP p z A hK).1, (wP p z A hK).2.wf (L := L) rfl rfl⟩
  ·rintro k h A x ⟨z, rfl, hI⟩ hx lp bs C1 hN hL
   refine tB (round k z A x hI hx lp bs C1 hN hL) fun e σ1 hq => ?_
   obtain ⟨rfl, hq⟩ := hq
   intro bs C2 hN2 hL2 hr
   refine tB (hq bs C2 hN2 hL2 hr) fun e σ hq => ?_
   cases e with
   | normal => obtain ⟨σ3, z, h1, h2, h3⟩ := hq; exact ⟨σ3, h1, z, h2, h3⟩
   | panic p => obtain ⟨hd0, z, h1, h2⟩ := hq; exact ⟨hd0, _, h1, z, rfl, h2⟩
   | exit i => obtain ⟨σ3, z, h1, h2, h3⟩ := hq; exact ⟨σ3, h1, z, h2, h3⟩
   | goto i => obtain ⟨σ3, z, h1, h2, h3⟩ := hq; exact ⟨σ3, h1, z, h2, h3⟩
   | ret => obtain ⟨σ3, z, h1, h2, h3⟩ := hq; exact ⟨σ3, h1, z, h2, h3⟩
 obtain ⟨z0, hz0, hm0⟩ := h0
 refine aGV (d := d) L ok hps hg hent hca hcb hia hib h1 h2 it rfl rfl rfl rfl ⟨z0, by rw [hm0], hz0⟩ hd ?_ ?_ ?_ he
 ·rintro e h A ⟨z, rfl, hk⟩
  exact ⟨(wK e z A hk).d, hK e z A hk⟩
 ·rintro p h A (⟨ht, z, rfl, hi⟩ | ⟨z, rfl, hk⟩)
  ·exact ⟨(wI _ z A hi).d, hT p z A ht hi⟩
  ·exact ⟨(wP p z A hk).2.d, hP p z A hk⟩
 ·rintro h A ht ⟨z, rfl, hi⟩
  exact ⟨(wI _ z A hi).d, hI z A ht hi⟩
theorem aDM {fn : Func} {R : cK E → Prop} {v : P} (I : List Nat) (hm : bY I m = m') (h3 : dU (bM m I) I = true) (hR : R (.panic v (aG m') A)) (hne : ∀ i ∈ I, aG m i ≠ .none) : aCv Pg fn R (.panic v) (sg l m A []) := by
 simp only [dU, List.all_eq_true, decide_eq_true_eq] at h3
 subst hm
 refine ⟨rfl, _, ⟨fun id => ?_, fun j id hx => ?_⟩, hR⟩
 ·rw [dN]; split
  ·exact .inl rfl
  ·exact .inr rfl
 ·rw [dN] at hx ⊢
  split at hx
  ·rename_i hj
   have := h3 id (pI hj hx)
   rw [if_pos this]; exact hne id this
  ·simp [Ob.men] at hx
theorem tE {fn : Func} {R : cK E → Prop} (h : qS Pg fn R df none (bA l) (aG m) A) : aEY Pg fn R .ret (sg l m A df) := h
theorem aDN {fn : Func} {R : cK E → Prop} (h : qS Pg fn R df none (bA l) (aG m) A) : aEY Pg fn R .normal (sg l m A df) := h
theorem bP {fn : Func} {R : cK E → Prop} {p : P} (h : qS Pg fn R df (some p) (bA l) (aG m) A) : aEY Pg fn R (.panic p) (sg l m A df) := h
theorem cV {fn : Func} {R : cK E → Prop} (h : Fin Pg fn R (sg l m A [])) : qS Pg fn R [] none (bA l) (aG m) A := h
theorem aBZ {fn : Func} {R : cK E → Prop} {p : P} (h : R (.panic p (aG []) A)) : qS Pg fn R [] (some p) (bA l) (aG m) A := ⟨aG [], aCx, h⟩
theorem aIG {fn : Func} {R : cK E → Prop} {md : Option P} {d : Nat} {ds : List GD} (h1 : aG m d = .mark) (h2 : d ∉ eX l) (h3 : d ∉ bM m (m.map (·.1))) (h4 : d ∉ dP ds) (h : qS Pg fn R ds md (bA l) (aG ((d, .none) :: m)) A) :
  qS Pg fn R (.mark d :: ds) md (bA l) (aG m) A := by
 refine ⟨h1, fun t => ?_, fun j => ?_, fun g hg => ?_, h⟩
 ·cases hm : (bA l t).men d with
  | false => rfl
  | true => exact absurd (aCz hm) h2
 ·cases hm : (aG m j).men d with
  | false => rfl
  | true =>
   refine absurd (pI (aBX fun e => ?_) hm) h3
   rw [e] at hm; simp [Ob.men] at hm
 ·cases hm : g.men d with
  | false => rfl
  | true => exact absurd (xQ hg hm) h4
theorem aIH {fn : Func} {R : cK E → Prop} {md : Option P} {f : FuncId} {args caps gargs : List G} {ds : List GD} {J : List Nat} {L : List (Nat × Nat)} {mc mr ps m2 : List (Nat × Ob)} {g : G} (spec : kV E f gargs (aG mc) A md fun y => y = .ok g (aG mr) A) (hent : aJ Pg f)
  (hcv : nY (rhp (aG m) J) (args ++ caps) = (cp, G.rens (cZ L) gargs)) (hc : cp) (hp : kT 100 L (aG m) (aG mc)) (hb : gG L (aG mc) (aG mr)) (hps : cQ L (aG mr) = ps) (hm : ps.reverse ++ m = m2)
  (h : qS Pg fn R ds none (bA l) (aG m2) A) : qS Pg fn R (.call f args caps :: ds) md (bA l) (aG m) A :=
 ⟨hent, J, cp, gargs, L, aG mc, _, hcv, hc, hp, spec, fun g' h' A' e => by cases e; exact ⟨hb, by rw [hps, oD, hm]; exact h⟩, fun p h' A' e => by cases e⟩
theorem aAU {f : FuncId} {fn : Func} {args : List G} {R : cK E → Prop} (hf : Pg.funcs[f]? = some fn) (hb : fn.body = some c) (hN : args.length ≤ fn.ntmps) (w1 : ∀ id, G.mens id args = true → aG m id ≠ .none)
  (w2 : ∀ j id, (aG m j).men id = true → aG m id ≠ .none) (hbody : ∀ C : Cx E, C.N = fn.ntmps → C.lim = 100 → gwp C none c (aEY Pg fn R) (sg (num 0 args) m A [])) : bE E f args (aG m) A R :=
 aIC hf hb hN (fun g hg id hm => w1 id (cA.2 ⟨g, hg, hm⟩)) w2 fun C hC hL => by
  have := hbody C hC hL
  rw [sg, ← wB] at this
  exact this
theorem kW {f : FuncId} {fn : Func} {args : List G} {R : cK E → Prop} (hf : Pg.funcs[f]? = some fn) (hb : fn.body = some c) (hN : args.length ≤ fn.ntmps) (w1 : ∀ id, G.mens id args = true → aG m id ≠ .none)
  (w2 : ∀ j id, (aG m j).men id = true → aG m id ≠ .none) (hbody : ∀ C : Cx E, C.N = fn.ntmps → C.lim = 100 → qR true C none c (aEY Pg fn R) (sg (num 0 args) m A [])) : bE E f args (aG m) A R :=
 aID hf hb hN (fun g hg id hm => w1 id (cA.2 ⟨g, hg, hm⟩)) w2 fun C hC hL => by
  have := hbody C hC hL
  rw [sg, ← wB] at this
  exact this
theorem fZ {f : FuncId} {fn : Func} {args : List G} {R : cK E → Prop} {md : Option P} {id : Nat} {o1 : Oper} {t : Nat} (hf : Pg.funcs[f]? = some fn) (c2 : Option Code) (hb : fn.body = some (aLv id ops c2)) (hops : ops.toList = o1 :: rest) (hrc : qB o1 = true) (hdst : o1.dst = some t) (ht : t < fn.ntmps)
  (hN : args.length ≤ fn.ntmps) (w1 : ∀ id, G.mens id args = true → aG m id ≠ .none) (w2 : ∀ j id, (aG m j).men id = true → aG m id ≠ .none)
  (hbody : ∀ C : Cx E, C.N = fn.ntmps → C.lim = 100 → cJ C none ops (aLw C fn R c2) rest (sg ((t, pJ md) :: num 0 args) m A [])) : kV E f args (aG m) A md R :=
 aEX hf hb hops hrc hN (fun t' e => by rw [hdst] at e; cases e; exact ht) (fun g hg id hm => w1 id (cA.2 ⟨g, hg, hm⟩)) w2 c2 rfl fun C hC hL => by
  have := hbody C hC hL
  rw [sg, show bA ((t, pJ md) :: num 0 args) = vC (aBv args) o1.dst (pJ md) by rw [hdst, wB]; rfl] at this
  exact this
theorem aII {cl : Call} {f : FuncId} {gs gargs : List G} {J : List Nat} {L : List (Nat × Nat)} {mc mr : List (Nat × Ob)} {ks : List Nat} {ad : Option (Nat × Ob)} {t : Nat} {ty : TypeId} {pos : String} {af : Array Edge} {gd : Option (Nat × Bool)} {v : P}
  (spec : bE E f gargs (aG mc) A fun y => y = .panic v (aG mr) A) (hent : aJ Pg f) (hw : dM ops (bA l) ⟨some t, .call cl, ty, pos, af, gd⟩ = some true) (hg : cH Pg (bA l) cl = some (f, gs)) (ha : hU C.lim (aG m) L ad) (hcv : jW (rhp (aG m) J) (ad.map (·.1)) ks gs = some (cp, G.rens (cZ L) gargs)) (hc : cp)
  (hp : kT C.lim L (dH (aG m) ad) (aG mc)) (hdis : ∀ d ob, ad = some (d, ob) → d ∉ J) (hb : gG L (aG mc) (aG mr)) (ht : t < C.N)
  (k : Q (.panic v) ⟨bA l, cS (aG m) (cQ L (aG mr)), A, df⟩) : cJ C r ops Q (⟨some t, .call cl, ty, pos, af, gd⟩ :: rest) (sg l m A df) := by
 refine pG (aAN (o := ⟨some t, .call cl, ty, pos, af, gd⟩) (σ := sg l m A df) rfl hw hg hent ha hcv hc hp hdis spec (fun g h' A' e => ?_) (fun p h' A' e => ?_) (fun t' e => by cases e; exact ht))
 ·cases e
 ·cases e; exact ⟨hb, k⟩
theorem aKx {lo : Nat} {o : Oper} (tab : List Nat) (ho : ops[lo]? = some o) (hw : nZ tab ops.toList 0 = true) (hc : aEQ tab lo 1 ops.size = true) (he : ∀ K : Sg E → Prop, (∀ σ, pV C r ops (cD C Q) (lo + 1) σ → K σ) → qP C r ops o σ K Q) : pV C r ops (cD C Q) lo σ :=
 aGO tab ho hw hc (he _ fun _ h => h)
end
section
open Go.RowKit
variable {Pg : Program} [Kn Pg] {E : Env Pg} {C : Cx E} {r : Option Nat} {ops : Array Oper} {Q : GE → Sg E → Prop} {l l' : List (Nat × G)} {m m' : List (Nat × Ob)} {A : E.α} {df : List GD} {σ σ0 : Sg E} {c : Code} {rest : List Oper} {cp : Prop}
theorem pK {π : PM} {ρ : RM} {y : Value} {cs : List G} {vs : List Value} {j : Nat} {g g' : G} (h : aQ π ρ y cs vs) (hj : cs[j]? = some g) (hg : ∀ v, aK π ρ y g v → aK π ρ y g' v) : aQ π ρ y (cs.set j g') vs :=
 aQ.mk (by simp [h.length]) fun i x u hx hu => by
  rw [List.getElem?_set] at hx
  split at hx
  ·rename_i e; subst e
   split at hx
   ·cases hx
    obtain ⟨u', hu', hr⟩ := h.get j g hj
    rw [hu] at hu'; cases hu'
    exact hg u hr
   ·cases hx
  ·obtain ⟨u', hu', hr⟩ := h.get i x hx
   rw [hu] at hu'; cases hu'
   exact hr
theorem Le.adoptCell {id off fz d : Nat} {cs : List G} (e : TypeId) (sz : Nat) (fl : Bool) (ho : σ.h id = .cells cs fz) (hc : cs[off]? = some .nils) (hd : σ.h d = .none) (hd2 : C.lim ≤ d) :
  Le C σ { σ with h := upd (upd σ.h d (.arr e sz [] fl)) id (.cells (cs.set off (.own d 0)) fz) } := fun a w ⟨π, ρ, S, H⟩ => by
 have hdm : ∀ j, (σ.h j).men d = false := fun j => by
  cases hm : (σ.h j).men d with
  | false => rfl
  | true => exact absurd hd (H.wfh j d hm)
 obtain ⟨U1, U2⟩ := H.rel.newNil d hd hdm e sz fl
 have hne : ∀ i, σ.h i ≠ .none → upd σ.h d (Ob.arr e sz [] fl) i ≠ .none := fun i hi => by
  simp only [upd]; split
  ·simp
  ·exact hi
 have H1 : St C { σ with h := upd σ.h d (.arr e sz [] fl) } a w π (upd ρ d ⟨0, .slice none 0 0, 0⟩) S := by
  refine H.putObj U1 U2 (fun j hj => ?_) (fun j hj => ?_) hne (fun j i hm => ?_)
  ·have : j ≠ d := fun e => hj (e ▸ hd)
   rw [aZ _ _ this]; exact .inl rfl
  ·rw [aZ _ _ (by omega)]; exact .inl rfl
  ·simp only [upd] at hm
   split at hm
   ·simp [Ob.men] at hm
   ·exact hne i (H.wfh j i hm)
 have hid : id ≠ d := fun e => by subst e; rw [ho] at hd; cases hd
 have ho1 : upd σ.h d (Ob.arr e sz [] fl) id = .cells cs fz := by rw [aZ _ _ hid]; exact ho
 have hob := H1.rel.objs id
 simp only [ho1] at hob
 obtain ⟨vs, et, hw, hv, hone, hf, hn⟩ := hob
 have hnew := pK (g' := .own d 0) hv hc fun v hr => by
  simp only [aK] at hr ⊢
  subst hr
  rw [aV]
  exact ⟨Nat.le_refl _, fun _ => rfl⟩
 have hrefl : ∀ (ρ : RM), upd ρ id (ρ id) = ρ := fun ρ => by funext j; unfold upd; split <;> simp_all
 have T := H1.rel.turn (w' := w) (π' := π) id (upd ρ d ⟨0, .slice none 0 0, 0⟩ id) (.cells (cs.set off (.own d 0)) fz) (Nat.le_refl _) rfl rfl rfl (fun b _ _ => ⟨rfl, rfl⟩) (PM.le_refl _) H1.rel.know (fun _ _ _ => .inl rfl) ?_ (fun b hb => ?_)
 ·rw [hrefl] at T
  refine ⟨π, _, S, H1.putObj T.1 T.2 (fun _ _ => .inl rfl) (fun _ _ => .inl rfl) (fun i hi => ?_) fun j i hm => ?_⟩
  ·simp only [upd] at hi ⊢; split
   ·simp
   ·exact hi
  ·have hk : ∀ i, σ.h i ≠ .none ∨ i = d → upd (upd σ.h d (Ob.arr e sz [] fl)) id (Ob.cells (cs.set off (.own d 0)) fz) i ≠ .none := fun i hi => by
    simp only [upd]; split
    ·simp
    ·split
     ·simp
     ·exact hi.resolve_right (by assumption)
   replace hm : (upd (upd σ.h d (Ob.arr e sz [] fl)) id (Ob.cells (cs.set off (.own d 0)) fz) j).men i = true := hm
   simp only [upd] at hm
   split at hm
   ·simp only [Ob.men] at hm
    obtain ⟨g, hg, hgm⟩ := cA.1 hm
    rcases List.mem_or_eq_of_mem_set hg with hg | hg
    ·exact hk i (.inl (H.wfh id i (by rw [ho]; exact cA.2 ⟨g, hg, hgm⟩)))
    ·subst hg
     simp only [G.men, beq_iff_eq] at hgm
     exact hk i (.inr hgm.symm)
   ·split at hm
    ·simp [Ob.men] at hm
    ·exact hk i (.inl (H.wfh j i hm))
 ·rw [hrefl]
  refine ⟨vs, et, hw, hnew, fun c hc' => ?_, hf, hn⟩
  rcases List.mem_or_eq_of_mem_set hc' with h | h
  ·exact hone c h
  ·subst h; rfl
 ·rw [hrefl] at hb
  exact .inl (by simp only [ho1]; exact hb)
theorem aIJ (id off d : Nat) (e : TypeId) (sz : Nat) (fl : Bool) {cs cs2 : List G} {fz : Nat} (ho : aG m id = .cells cs fz) (hc : cs[off]? = some .nils) (he : cs.set off (.own d 0) = cs2) (hd : aG m d = .none) (hd2 : C.lim ≤ d)
  (k : gwp C r c Q (sg l ((id, .cells cs2 fz) :: (d, .arr e sz [] fl) :: m) A df)) : gwp C r c Q (sg l m A df) :=
 pH (Le.adoptCell (σ := sg l m A df) e sz fl ho hc hd hd2) (by subst he; exact k)
theorem dT {fn : Func} {R : cK E → Prop} (h : Fin Pg fn R σ) : aIB Pg fn R .normal σ := h
end
section
open Go.RowKit
variable {Pg : Program} [Kn Pg] {E : Env Pg} {C : Cx E} {r : Option Nat} {ops : Array Oper} {Q : GE → Sg E → Prop} {l l' : List (Nat × G)} {m m' : List (Nat × Ob)} {A : E.α} {df : List GD} {σ σ0 : Sg E} {c : Code} {rest : List Oper} {cp : Prop}
theorem aE0 {π : PM} {xs : List P} {v : Value} (h : aS π (.list xs) v) : ∃ a n c, v = .slice a n c ∧ (a.isNone = true → xs = []) := by
 simp only [aS] at h
 obtain ⟨a, n, c, e, hl, hc, hr⟩ := h
 refine ⟨a, n, c, e, fun ha => ?_⟩
 rcases hr with ⟨rfl, rfl⟩ | ⟨b, o, rfl, _⟩
 ·have : xs.length = 0 := by omega
  exact List.eq_nil_of_length_eq_zero this
 ·cases ha
theorem aGZ {ops : Array Oper} {ty : TypeId} {i : TI} {x z : Operand} {t2 : TypeId} {t : Nat} {pos : String} {af : Array Edge} {gd : Option (Nat × Bool)} {xs : List P} {e : TypeId} {K : Sg E → Prop} {tt : TypeId} (hi : ti Pg tt = some i) (hd : i.desc = .slice e) (hw : dM ops σ.fr ⟨some t, .binOp .eql tt x z t2, ty, pos, af, gd⟩ = some true)
  (hx : gev σ.fr x = .p (.list xs)) (hz : z = .const (.slice none 0 0)) (ht : t < C.N) (hk : ∀ b : Bool, (b = true → xs = []) → K (σ.put (some t) (.p (.bool b)) [])) : qP C r ops ⟨some t, .binOp .eql tt x z t2, ty, pos, af, gd⟩ σ K Q := by
 intro a w ⟨π, ρ, S, H⟩ K' hK
 have hwt := fP H hw
 unfold wpO
 rw [hwt]
 simp only [if_true]
 refine ⟨fun f' hf' => (by rw [kR (fun cl => by simp)] at hf'; cases hf'), ?_⟩
 have hv := fO H x
 rw [hx] at hv
 simp only [aK] at hv
 obtain ⟨ad, n, cc, e1, hnil⟩ := aE0 hv
 obtain ⟨info, zz, hund, _⟩ := dA hi
 rw [hd] at hund
 have hsem : Oper.semAt (MF Pg r).round a.eval ⟨some t, .binOp .eql tt x z t2, ty, pos, af, gd⟩ = execOp a.eval ⟨some t, .binOp .eql tt x z t2, ty, pos, af, gd⟩ := by
  cases r with
  | none => rfl
  | some l => exact Oper.semAt_some l _ _ fun cl hcl => by cases hcl
 subst hz
 have hrun : (execOp a.eval ⟨some t, .binOp .eql tt x (.const (.slice none 0 0)) t2, ty, pos, af, gd⟩).run Pg w = .ok (.value (.bool ad.isNone)) w := by
  have h2 := Go.run_equal_slice_nil (P := Pg) w tt e ad n cc hund
  have hev : a.eval (.const (.slice none 0 0)) = .slice none 0 0 := rfl
  simp [execOp, e1, hev, binOp, eqGuard, h2]
 rw [hsem, hrun]
 refine hK _ _ _ (hk ad.isNone hnil) ⟨π, ρ, S, ?_⟩
 exact H.putReg (dst := some t) (fun t' e => by cases e; exact ht) (aK.bool _) fun id h => by simp [G.men] at h
theorem aKy {tt : TypeId} {i : TI} {x z : Operand} {t2 ty : TypeId} {t : Nat} {pos : String} {af : Array Edge} {xs : List P} {e : TypeId} (hi : ti Pg tt = some i) (hd : i.desc = .slice e) (hx : gev (bA l) x = .p (.list xs)) (hz : z = .const (.slice none 0 0)) (ht : t < C.N)
  (k : ∀ b : Bool, (b = true → xs = []) → cJ C r ops Q rest (sg ((t, .p (.bool b)) :: l) m A df)) : cJ C r ops Q (⟨some t, .binOp .eql tt x z t2, ty, pos, af, none⟩ :: rest) (sg l m A df) :=
 pG (aGZ (σ := sg l m A df) hi hd (bJ rfl) hx hz ht k)
theorem aIK {h : Nat → Ob} : ∀ (gs : List G), ∃ c : Prop, hZ h (List.replicate gs.length .k) gs = some (c, gs) ∧ c
 | [] => ⟨True, rfl, trivial⟩
 | g :: gs => by
  obtain ⟨c, h1, h2⟩ := aIK (h := h) gs
  exact ⟨True ∧ c, by simp only [List.length_cons, List.replicate_succ, hZ, cvS, h1], trivial, h2⟩
theorem Le.freezeK {id fz n : Nat} {cs : List G} (ho : σ.h id = .cells cs fz) (hn : fz ≤ n) (hn2 : n ≤ cs.length) (h1 : bB (cs.take n) = true) : Le C σ { σ with h := upd σ.h id (.cells cs n) } := by
 obtain ⟨c, e, hc⟩ := aIK (h := σ.h) (cs.take n)
 have := Le.freeze (C := C) ho hn hn2 e hc h1
 rwa [List.take_append_drop] at this
theorem aE1 {lst : List Oper} (id n : Nat) {cs : List G} {fz : Nat} (ho : aG m id = .cells cs fz) (hn : fz ≤ n) (hn2 : n ≤ cs.length) (h1 : bB (cs.take n) = true) (k : cJ C r ops Q lst (sg l ((id, .cells cs n) :: m) A df)) : cJ C r ops Q lst (sg l m A df) :=
 aCw (Le.freezeK (σ := sg l m A df) ho hn hn2 h1) k
theorem aG0 {p : P} (h : p.one = true) : p.cells = [p] := by cases p <;> simp [P.one] at h <;> rfl
theorem wH : ∀ {ps : List P}, (∀ p ∈ ps, p.one = true) → ps.flatMap P.cells = ps
 | [], _ => rfl
 | p :: ps, h => by rw [List.flatMap_cons, aG0 (h p (by simp)), wH fun q hq => h q (by simp [hq])]; rfl
end
section
open Go.RowKit
variable {Pg : Program} [Kn Pg] {E : Env Pg} {C : Cx E} {r : Option Nat} {ops : Array Oper} {Q : GE → Sg E → Prop} {l l' : List (Nat × G)} {m m' : List (Nat × Ob)} {A : E.α} {df : List GD} {σ σ0 : Sg E}
end
section
open Go.RowKit
variable {Pg : Program} [Kn Pg] {E : Env Pg} {C : Cx E} {r : Option Nat} {ops : Array Oper} {Q : GE → Sg E → Prop} {l l' : List (Nat × G)} {m m' : List (Nat × Ob)} {A : E.α} {df : List GD} {σ σ0 : Sg E} {c : Code} {rest : List Oper} {cp : Prop}
theorem Le.convCell {id off fz : Nat} {cs : List G} {g g' : G} {s : Sp} {q : Prop} (ho : σ.h id = .cells cs fz) (hc : cs[off]? = some g) (hcv : cvS σ.h s g = some (q, g')) (hq : q) (h1 : g'.one = true) :
  Le C σ { σ with h := upd σ.h id (.cells (cs.set off g') fz) } := fun a w ⟨π, ρ, S, H⟩ => by
 have hob := H.rel.objs id
 simp only [ho] at hob
 obtain ⟨vs, et, hw, hv, hone, hf, hn⟩ := hob
 have hnew := pK (g' := g') hv hc fun v hr => aCG H.rel hcv hq hr
 have hrefl : upd ρ id (ρ id) = ρ := by funext j; unfold upd; split <;> simp_all
 have T := H.rel.turn (w' := w) (π' := π) id (ρ id) (.cells (cs.set off g') fz) (Nat.le_refl _) rfl rfl rfl (fun b _ _ => ⟨rfl, rfl⟩) (PM.le_refl _) H.rel.know (fun _ _ _ => .inl rfl) ?_ (fun b hb => ?_)
 ·rw [hrefl] at T
  have hne : ∀ i, σ.h i ≠ .none → upd σ.h id (Ob.cells (cs.set off g') fz) i ≠ .none := fun i hi => by
   simp only [upd]; split
   ·simp
   ·exact hi
  refine ⟨π, ρ, S, H.putObj T.1 T.2 (fun _ _ => .inl rfl) (fun _ _ => .inl rfl) hne fun j i hm => ?_⟩
  simp only [upd] at hm
  split at hm
  ·refine hne i ?_
   simp only [Ob.men] at hm
   obtain ⟨x, hx, hxm⟩ := cA.1 hm
   rcases List.mem_or_eq_of_mem_set hx with hx | hx
   ·exact H.wfh id i (by rw [ho]; exact cA.2 ⟨x, hx, hxm⟩)
   ·subst hx
    exact aCH H.wfh hcv (fun i hi => H.wfh id i (by rw [ho]; exact cA.2 ⟨g, List.mem_of_getElem? hc, hi⟩)) i hxm
  ·exact hne i (H.wfh j i hm)
 ·rw [hrefl]
  refine ⟨vs, et, hw, hnew, fun c hc' => ?_, hf, hn⟩
  rcases List.mem_or_eq_of_mem_set hc' with h | h
  ·exact hone c h
  ·subst h; exact h1
 ·rw [hrefl] at hb
  exact .inl (by rw [ho]; exact hb)
theorem nC (id off : Nat) (s : Sp) {cs cs2 : List G} {g g' : G} {fz : Nat} (ho : aG m id = .cells cs fz) (hc : cs[off]? = some g) (hcv : cvS (aG m) s g = some (cp, g')) (hq : cp) (h1 : g'.one = true) (he : cs.set off g' = cs2)
  (k : gwp C r c Q (sg l ((id, .cells cs2 fz) :: m) A df)) : gwp C r c Q (sg l m A df) :=
 pH (Le.convCell (σ := sg l m A df) ho hc hcv hq h1) (by subst he; exact k)
theorem Le.adoptReg {t d : Nat} (e : TypeId) (sz : Nat) (fl : Bool) (hr : σ.fr t = .nils) (hd : σ.h d = .none) (hd2 : C.lim ≤ d) :
  Le C σ { σ with h := upd σ.h d (.arr e sz [] fl), fr := upd σ.fr t (.own d 0) } := fun a w ⟨π, ρ, S, H⟩ => by
 have hdm : ∀ j, (σ.h j).men d = false := fun j => by
  cases hm : (σ.h j).men d with
  | false => rfl
  | true => exact absurd hd (H.wfh j d hm)
 obtain ⟨U1, U2⟩ := H.rel.newNil d hd hdm e sz fl
 have hne : ∀ i, σ.h i ≠ .none → upd σ.h d (Ob.arr e sz [] fl) i ≠ .none := fun i hi => by
  simp only [upd]; split
  ·simp
  ·exact hi
 have H1 : St C { σ with h := upd σ.h d (.arr e sz [] fl) } a w π (upd ρ d ⟨0, .slice none 0 0, 0⟩) S := by
  refine H.putObj U1 U2 (fun j hj => ?_) (fun j hj => ?_) hne (fun j i hm => ?_)
  ·have : j ≠ d := fun e => hj (e ▸ hd)
   rw [aZ _ _ this]; exact .inl rfl
  ·rw [aZ _ _ (by omega)]; exact .inl rfl
  ·simp only [upd] at hm
   split at hm
   ·simp [Ob.men] at hm
   ·exact hne i (H.wfh j i hm)
 refine ⟨π, _, S, H1.size, fun k => ?_, H1.defs, H1.rel, H1.trans, H1.step, fun k i hm => ?_, H1.wfh, H1.wfd⟩
 ·have hv := H1.vals k
  show aK π _ E.yv (upd σ.fr t (.own d 0) k) _
  simp only [upd]
  split
  ·rename_i e; subst e
   replace hv : aK π _ E.yv (σ.fr k) _ := hv
   rw [hr] at hv
   simp only [aK] at hv ⊢
   rw [hv, aV]
   exact ⟨Nat.le_refl _, fun _ => rfl⟩
  ·exact hv
 ·replace hm : (upd σ.fr t (.own d 0) k).men i = true := hm
  simp only [upd] at hm
  split at hm
  ·simp only [G.men, beq_iff_eq] at hm
   subst hm
   show upd σ.h d (Ob.arr e sz [] fl) d ≠ .none
   rw [aV]; simp
  ·exact H1.wfr k i hm
theorem xV (t d : Nat) (e : TypeId) (sz : Nat) (fl : Bool) (hr : bA l t = .nils) (hd : aG m d = .none) (hd2 : C.lim ≤ d)
  (k : gwp C r c Q (sg ((t, .own d 0) :: l) ((d, .arr e sz [] fl) :: m) A df)) : gwp C r c Q (sg l m A df) :=
 pH (Le.adoptReg (σ := sg l m A df) e sz fl hr hd hd2) k
end
section
open Go.RowKit
variable {Pg : Program} [Kn Pg] {E : Env Pg} {C : Cx E} {r : Option Nat} {ops : Array Oper} {Q : GE → Sg E → Prop} {l l' : List (Nat × G)} {m m' : List (Nat × Ob)} {A : E.α} {df : List GD} {σ σ0 : Sg E} {c : Code} {rest : List Oper} {cp : Prop}
theorem aCK {w : World} {base : Nat} {e : TypeId} {size n : Nat} {v : Value} {xs : List Value} {b : Nat} (h : w.ownsRow base e size v n xs) (hb : cP v = some b) {j : Nat} {u : Value} (hj : xs[j]? = some u) : w.cell? ⟨b, j, none⟩ = some u := by
 obtain ⟨h1, h2⟩ := h
 rcases h2 with ⟨h2, _⟩ | ⟨g, cap, cur, hv, _, hh, _, _, _, ht⟩
 ·rw [h2] at hb; simp [cP] at hb
 ·have := jD hb
  rw [hv] at this
  simp only [Value.ownBlock, Option.some.injEq] at this
  subst this
  obtain ⟨curl⟩ := cur
  rw [fI hh]
  rw [← ht, List.getElem?_take] at hj
  split at hj
  ·exact hj
  ·cases hj
theorem Le.freezeArr {id : Nat} {e : TypeId} {sz : Nat} {xs : List P} (ho : σ.h id = .arr e sz xs false) : Le C σ { σ with h := upd σ.h id (.arr e sz xs true) } := fun a w ⟨π, ρ, S, H⟩ => by
 have hob := H.rel.objs id
 rw [ho] at hob
 obtain ⟨cs, hrow, hlen, hps, hsz, hone, hcap⟩ := hob
 have hrefl : upd ρ id (ρ id) = ρ := by funext j; unfold upd; split <;> simp_all
 have hne : ∀ i, σ.h i ≠ .none → upd σ.h id (Ob.arr e sz xs true) i ≠ .none := fun i hi => by
  simp only [upd]; split
  ·simp
  ·exact hi
 have fin : ∀ π', Rel E π' ρ (upd σ.h id (.arr e sz xs true)) σ.A S w → cG (Own ρ σ.h S) w π (Own ρ (upd σ.h id (.arr e sz xs true)) S) w π' → Holds C { σ with h := upd σ.h id (.arr e sz xs true) } a w := fun π' R' T' => by
  refine ⟨π', ρ, S, H.putObj R' T' (fun _ _ => .inl rfl) (fun _ _ => .inl rfl) hne fun j i hm => ?_⟩
  simp only [upd] at hm
  split at hm
  ·simp [Ob.men] at hm
  ·exact hne i (H.wfh j i hm)
 cases hb : cP (ρ id).v with
 | none =>
  have T := H.rel.turn (w' := w) (π' := π) id (ρ id) (.arr e sz xs true) (Nat.le_refl _) rfl rfl rfl (fun b _ _ => ⟨rfl, rfl⟩) (PM.le_refl _) H.rel.know (fun _ _ _ => .inl rfl) ?_ (fun b hb' => ?_)
  ·rw [hrefl] at T
   exact fin π T.1 T.2
  ·rw [hrefl]
   exact ⟨cs, hrow, hlen, hps, hsz, hone, fun b hb' => by rw [hb] at hb'; cases hb'⟩
  ·rw [hrefl] at hb'
   simp only [bL] at hb'
   rw [hb] at hb'; cases hb'
 | some b =>
  have hown : w.ownsRow 0 e sz (ρ id).v xs.length cs := by
   rcases hrow with ⟨_, _, a, _, hv⟩ | ⟨h, _⟩
   ·rw [hv] at hb; cases a <;> simp [cP] at hb
   ·exact h
  have hnone := (hcap b hb).2
  let π' : PM := fun b' o => if b' = b then cs[o]? else π b' o
  have hle : PM.le π π' := fun b' o v hk => by
   simp only [π']
   split
   ·rename_i e; subst e
    rw [hnone o (.inl rfl)] at hk; cases hk
   ·exact hk
  have T := H.rel.turn (w' := w) (π' := π') id (ρ id) (.arr e sz xs true) (Nat.le_refl _) rfl rfl rfl (fun b' _ hne' => ⟨rfl, ?_⟩) hle (fun b' o v hk => ?_) (fun _ _ _ => .inl rfl) ?_ (fun b' hb' => ?_)
  ·rw [hrefl] at T
   exact fin π' T.1 T.2
  ·funext o
   simp only [π']
   rw [if_neg]
   intro e'
   exact hne' (by rw [ho]; simp [bL, hb, e'])
  ·simp only [π'] at hk
   split at hk
   ·rename_i e'; subst e'
    exact aCK hown hb hk
   ·exact H.rel.know _ _ _ hk
  ·rw [hrefl]
   refine ⟨cs, .inr ⟨hown, b, hb⟩, hlen, hps.mono hle, hsz, hone, fun b' hb' => ?_⟩
   rw [hb] at hb'; cases hb'
   refine ⟨fun _ j u hu => by simp only [π', if_true]; exact hu, fun j hj => ?_⟩
   simp only [π', if_true]
   rcases hj with hj | hj
   ·cases hj
   ·rw [List.getElem?_eq_none_iff]; exact hj
  ·rw [hrefl] at hb'
   rw [ho]; exact .inl hb'
theorem pL (id : Nat) {e : TypeId} {sz : Nat} {xs : List P} (ho : aG m id = .arr e sz xs false) (k : gwp C r c Q (sg l ((id, .arr e sz xs true) :: m) A df)) : gwp C r c Q (sg l m A df) :=
 pH (Le.freezeArr (σ := sg l m A df) ho) k
theorem aIL {lst : List Oper} (id : Nat) {e : TypeId} {sz : Nat} {xs : List P} (ho : aG m id = .arr e sz xs false) (k : cJ C r ops Q lst (sg l ((id, .arr e sz xs true) :: m) A df)) : cJ C r ops Q lst (sg l m A df) :=
 aCw (Le.freezeArr (σ := sg l m A df) ho) k
theorem Le.fslCell {i1 o1 f1 id off len fz : Nat} {ds cs : List G} {ps : List P} (hi : σ.h i1 = .cells ds f1) (hc : ds[o1]? = some (.fsl id off len)) (ho : σ.h id = .cells cs fz) (h1 : off + len ≤ fz) (hps : (cs.drop off).take len = ps.map .p) (h2 : ps.length = len) (h3 : ∀ p ∈ ps, p.one = true) :
  Le C σ { σ with h := upd σ.h i1 (.cells (ds.set o1 (.p (.list ps))) f1) } := fun a w ⟨π, ρ, S, H⟩ => by
 have hob := H.rel.objs i1
 simp only [hi] at hob
 obtain ⟨vs, et, hw, hv, hone, hf, hn⟩ := hob
 have hnew := pK (g' := .p (.list ps)) hv hc fun v hr => by
  simp only [aK] at hr
  obtain ⟨cap, hv, hcap⟩ := hr
  have hr := aCD H.rel ho h1
  rw [hps] at hr
  simp only [aK, aS]
  refine ⟨_, _, _, hv, h2.symm, hcap, .inr ⟨_, _, rfl, bD.row.2 ?_⟩⟩
  rw [wH h3]
  refine dJ.mk fun j c hc => ?_
  obtain ⟨u, h1, h2, h3⟩ := hr.get j (.p c) (by rw [List.getElem?_map, hc]; rfl)
  exact ⟨u, h1, by simpa only [aK] using h2, h3⟩
 have hrefl : upd ρ i1 (ρ i1) = ρ := by funext j; unfold upd; split <;> simp_all
 have T := H.rel.turn (w' := w) (π' := π) i1 (ρ i1) (.cells (ds.set o1 (.p (.list ps))) f1) (Nat.le_refl _) rfl rfl rfl (fun b _ _ => ⟨rfl, rfl⟩) (PM.le_refl _) H.rel.know (fun _ _ _ => .inl rfl) ?_ (fun b hb => ?_)
 ·rw [hrefl] at T
  have hne : ∀ i, σ.h i ≠ .none → upd σ.h i1 (Ob.cells (ds.set o1 (.p (.list ps))) f1) i ≠ .none := fun i hi => by
   simp only [upd]; split
   ·simp
   ·exact hi
  refine ⟨π, ρ, S, H.putObj T.1 T.2 (fun _ _ => .inl rfl) (fun _ _ => .inl rfl) hne fun j i hm => ?_⟩
  simp only [upd] at hm
  split at hm
  ·refine hne i ?_
   simp only [Ob.men] at hm
   obtain ⟨x, hx, hxm⟩ := cA.1 hm
   rcases List.mem_or_eq_of_mem_set hx with hx | hx
   ·exact H.wfh i1 i (by rw [hi]; exact cA.2 ⟨x, hx, hxm⟩)
   ·subst hx; simp [G.men] at hxm
  ·exact hne i (H.wfh j i hm)
 ·rw [hrefl]
  refine ⟨vs, et, hw, hnew, fun c hc' => ?_, hf, hn⟩
  rcases List.mem_or_eq_of_mem_set hc' with h | h
  ·exact hone c h
  ·subst h; rfl
 ·rw [hrefl] at hb
  exact .inl (by rw [hi]; exact hb)
theorem aF4 {i1 o1 f1 off len fz id : Nat} {ds ds2 cs : List G} {ps : List P} (hi : aG m i1 = .cells ds f1) (hc : ds[o1]? = some (.fsl id off len)) (ho : aG m id = .cells cs fz) (h1 : off + len ≤ fz) (hps : (cs.drop off).take len = ps.map .p) (h2 : ps.length = len) (h3 : ∀ p ∈ ps, p.one = true) (he : ds.set o1 (.p (.list ps)) = ds2)
  (k : gwp C r c Q (sg l ((i1, .cells ds2 f1) :: m) A df)) : gwp C r c Q (sg l m A df) := pH (Le.fslCell (σ := sg l m A df) hi hc ho h1 hps h2 h3) (by subst he; exact k)
end
section
variable {Pg : Program} [Kn Pg] {E : Env Pg} {l : List (Nat × G)} {m m' : List (Nat × Ob)} {A : E.α}
theorem aIM {fn : Func} {R : cK E → Prop} {d d' : Prop} {g : G} {v : P} {I : List Nat} (hg : fG Pg (aG m) (bA l) fn.results.toList = some (d, g)) (hd : d) (hp : toP (aG m) g = some (d', v)) (hd' : d') (hm : bY I m = m') (h3 : dU (bM m I) I = true)
  (hne : ∀ i ∈ I, aG m i ≠ .none) (hR : R (.ok (.p v) (aG m') A)) : Fin Pg fn R (sg l m A []) := by
 simp only [dU, List.all_eq_true, decide_eq_true_eq] at h3
 subst hm
 refine ⟨rfl, d, g, hg, hd, .p v, _, .inr ⟨d', v, hp, hd', rfl⟩, ⟨fun id => ?_, fun j id hx => ?_⟩, fun id hx => by simp [G.men] at hx, hR⟩
 ·rw [dN]; split
  ·exact .inl rfl
  ·exact .inr rfl
 ·rw [dN] at hx ⊢
  split at hx
  ·rename_i hj
   have := h3 id (pI hj hx)
   rw [if_pos this]; exact hne id this
  ·simp [Ob.men] at hx
end
section
open Go.RowKit
variable {Pg : Program} [Kn Pg] {E : Env Pg} {C : Cx E} {r : Option Nat} {ops : Array Oper} {Q : GE → Sg E → Prop} {l l' : List (Nat × G)} {m m' : List (Nat × Ob)} {A : E.α} {df : List GD} {σ σ0 : Sg E} {c : Code} {rest : List Oper} {cp : Prop}
theorem aDO (w : World) (g : Nat) (cs : Array Value) (t : TypeId) (fr : Nat × Nat) (hg : w.heap[g]? = some (.cells cs t fr)) : w.setRow g cs = w := by
 obtain ⟨hlt, hv⟩ := Array.getElem?_eq_some_iff.1 hg
 unfold World.setRow
 cases w with
 | mk heap =>
  simp only at hlt hv ⊢
  congr 1
  apply Array.ext
  ·simp
  ·intro i h1 h2
   rw [Array.getElem_modify]
   split
   ·rename_i e; subst e; rw [hv]
   ·rfl
end
section
open Go.RowKit
variable {Pg : Program} [Kn Pg] {E : Env Pg} {C : Cx E} {r : Option Nat} {ops : Array Oper} {Q : GE → Sg E → Prop} {l l' : List (Nat × G)} {m m' : List (Nat × Ob)} {A : E.α} {df : List GD} {σ σ0 : Sg E} {c : Code} {rest : List Oper} {cp : Prop}
theorem aE2 {ty : TypeId} {i j : TI} {x z : Operand} {t : Nat} {pos : String} {af : Array Edge} {gd : Option (Nat × Bool)} {tt t2 e : TypeId} {id off len fz : Nat} {cs : List G} {ps zs : List P} {K : Sg E → Prop}
  (hi : ti Pg tt = some i) (hd : i.desc = .slice e) (hj : ti Pg e = some j) (hsz : j.size = 1) (hw : dM ops σ.fr ⟨some t, .call ⟨.builtin .copy, #[x, z], #[tt, t2]⟩, ty, pos, af, gd⟩ = some true)
  (hx : gev σ.fr x = .fsl id off len) (ho : σ.h id = .cells cs fz) (hz : gev σ.fr z = .p (.list zs)) (hps : zs.take len = ps) (hfit : off + ps.length ≤ cs.length) (hf : fz ≤ off) (h0 : ∀ p ∈ zs, p.one = true) (ht : t < C.N)
  (hk : K (σ.put (some t) (.p (.int .i64 ps.length)) [(id, .cells (splice cs off (ps.map .p)) fz)])) :
  qP C r ops ⟨some t, .call ⟨.builtin .copy, #[x, z], #[tt, t2]⟩, ty, pos, af, gd⟩ σ K Q := by
 intro a w ⟨π, ρ, S, H⟩ K' hK
 have h1 : ∀ p ∈ ps, p.one = true := fun p hp => h0 p (List.mem_of_mem_take (hps ▸ hp))
 have hpl : ps.length = min len zs.length := by rw [← hps, List.length_take]
 have hwt := fP H hw
 unfold wpO
 rw [hwt]
 simp only [if_true]
 refine ⟨fun f' hf' => (by rw [uK rfl rfl] at hf'; cases hf'), ?_⟩
 have hvx := fO H x
 have hvz := fO H z
 rw [hx] at hvx
 rw [hz] at hvz
 simp only [aK, aS] at hvx hvz
 obtain ⟨cap, ex, hcap⟩ := hvx
 obtain ⟨ad, n, cc, ez, hn, hcc, hcell⟩ := hvz
 obtain ⟨info, zz, hund, _⟩ := dA hi
 rw [hd] at hund
 obtain ⟨info2, zz2, hund2, hin2, _, hsz2, _⟩ := dA hj
 have hinfo : (Pg.info? e).map (·.size) = some 1 := by rw [hin2, Option.map_some, hsz2, hsz]
 have hob := H.rel.objs id
 rw [ho] at hob
 obtain ⟨vs, et, hwv, hr, hone, _⟩ := hob
 have hsem : Oper.semAt (MF Pg r).round a.eval ⟨some t, .call ⟨.builtin .copy, #[x, z], #[tt, t2]⟩, ty, pos, af, gd⟩ = execOp a.eval ⟨some t, .call ⟨.builtin .copy, #[x, z], #[tt, t2]⟩, ty, pos, af, gd⟩ := by
  cases r with
  | none => rfl
  | some l => exact Oper.semAt_some l _ _ fun cl hcl => by cases hcl
 have fin : ∀ us : List Value, aU π ps us → (execOp a.eval ⟨some t, .call ⟨.builtin .copy, #[x, z], #[tt, t2]⟩, ty, pos, af, gd⟩).run Pg w = .ok (.value (goInt us.length)) (w.setRow (ρ id).blk ⟨vs.take off ++ us ++ vs.drop (off + us.length)⟩) →
   Oper.uponIn (MF Pg r) 0 Pg ⟨some t, .call ⟨.builtin .copy, #[x, z], #[tt, t2]⟩, ty, pos, af, gd⟩ a K' (cD C Q) ((Oper.semAt (MF Pg r).round a.eval ⟨some t, .call ⟨.builtin .copy, #[x, z], #[tt, t2]⟩, ty, pos, af, gd⟩).run Pg w) := fun us hus hrun => by
  rw [hsem, hrun]
  have hul : us.length = ps.length := hus.length
  have hlen := hr.length
  have U := H.rel.setCells ho hwv (hr.splice (aQ.of_PRels hus) off) (fun c hc => (qO hc).elim (hone c) fun hc => by obtain ⟨p, hp, rfl⟩ := List.mem_map.1 hc; exact h1 p hp) fun j hj => by
   rw [List.append_assoc, List.getElem?_append_left (by rw [List.length_take]; omega), List.getElem?_take, if_pos (by omega)]
  have hne : ∀ k, σ.h k ≠ .none → upd σ.h id (Ob.cells (splice cs off (ps.map .p)) fz) k ≠ .none := fun k hk => by
   simp only [upd]; split
   ·simp
   ·exact hk
  have H1 := H.putObj U.1 U.2 (fun _ _ => .inl rfl) (fun _ _ => .inl rfl) hne fun j i hm => by
   simp only [upd] at hm
   split at hm
   ·refine hne i ?_
    simp only [Ob.men] at hm
    obtain ⟨g, hg, hgm⟩ := cA.1 hm
    rcases qO hg with h | h
    ·exact H.wfh id i (by rw [ho]; exact cA.2 ⟨g, h, hgm⟩)
    ·obtain ⟨p, _, rfl⟩ := List.mem_map.1 h
     simp [G.men] at hgm
   ·exact hne i (H.wfh j i hm)
  refine hK _ _ _ hk ⟨π, ρ, S, ?_⟩
  rw [← hul]
  exact H1.putReg (dst := some t) (fun t' e => by cases e; exact ht) (by simp only [aK, aS]; rfl) fun id h => by simp [G.men] at h
 have hrun : ∀ u w', (Builtin.copy_ #[tt, t2] ty #[a.eval x, a.eval z]).run Pg w = .ok u w' → (execOp a.eval ⟨some t, .call ⟨.builtin .copy, #[x, z], #[tt, t2]⟩, ty, pos, af, gd⟩).run Pg w = .ok (.value u) w' := fun u w' hc => by
  simp [execOp, resolve, invoke, builtin, hc]
 rcases hcell with ⟨rfl, rfl⟩ | ⟨b, o, rfl, hcell⟩
 ·have hp0 : ps = [] := List.eq_nil_of_length_eq_zero (by omega)
  subst hp0
  refine fin [] (by simp only [aU]) (hrun _ _ ?_)
  rw [ex, ez]
  have := run_copy_none (P := Pg) w tt t2 ty e (some ⟨(ρ id).blk, off, none⟩) none len cap n 0 hund hinfo (by rw [show n = 0 by omega]; exact Nat.zero_min _)
  rw [this]
  congr 1
  have hv : vs.take off ++ [] ++ vs.drop (off + ([] : List Value).length) = vs := by simp
  rw [hv]
  exact (aDO w (ρ id).blk ⟨vs⟩ et _ hwv).symm
 ·rw [bD.row, wH h0] at hcell
  replace hcell := hcell.take len
  rw [hps] at hcell
  obtain ⟨us, hus, hcl, hu1⟩ := dJ.vals hcell
  have hul : us.length = ps.length := hus.length
  have hlen := hr.length
  refine fin us hus (hrun _ _ ?_)
  rw [ex, ez]
  exact run_copy_row (P := Pg) w tt t2 ty e (ρ id).blk off len cap ⟨b, o, none⟩ n cc ⟨vs⟩ et us hund hinfo hwv (by rw [hul, show n.min len = min n len from rfl]; omega) (fun j v hj => by have := H.rel.know _ _ _ (hcl j v hj); rwa [Addr.add_lit]) (by show off + us.length ≤ vs.length; omega) hu1
theorem aIN {ty tt t2 e : TypeId} {i j : TI} {x z : Operand} {t : Nat} {pos : String} {af : Array Edge} {id off len fz : Nat} {cs : List G} {ps zs : List P}
  (hi : ti Pg tt = some i) (hd : i.desc = .slice e) (hj : ti Pg e = some j) (hsz : j.size = 1) (hx : gev (bA l) x = .fsl id off len) (ho : aG m id = .cells cs fz) (hz : gev (bA l) z = .p (.list zs)) (hps : zs.take len = ps) (hfit : off + ps.length ≤ cs.length) (hf : fz ≤ off) (h0 : ∀ p ∈ zs, p.one = true) (ht : t < C.N)
  (k : cJ C r ops Q rest (sg ((t, .p (.int .i64 ps.length)) :: l) ((id, .cells (splice cs off (ps.map .p)) fz) :: m) A df)) : cJ C r ops Q (⟨some t, .call ⟨.builtin .copy, #[x, z], #[tt, t2]⟩, ty, pos, af, none⟩ :: rest) (sg l m A df) :=
 pG (aE2 (σ := sg l m A df) hi hd hj hsz (bJ rfl) hx ho hz hps hfit hf h0 ht k)
end
section
theorem aCL {m m' : List (Nat × Ob)} (I : List Nat) (hm : bY I m = m') (h3 : dU (bM m I) I = true) (hne : ∀ i ∈ I, aG m i ≠ .none) : Sub (aG m') (aG m) := by
 simp only [dU, List.all_eq_true, decide_eq_true_eq] at h3
 subst hm
 refine ⟨fun id => ?_, fun j id hx => ?_⟩
 ·rw [dN]; split
  ·exact .inl rfl
  ·exact .inr rfl
 ·rw [dN] at hx ⊢
  split at hx
  ·rename_i hj
   have := h3 id (pI hj hx)
   rw [if_pos this]; exact hne id this
  ·simp [Ob.men] at hx
end
section
open Go.RowKit
variable {Pg : Program} [Kn Pg] {E : Env Pg} {C : Cx E} {σ : Sg E} {a : Act} {w w' : World} {π π' : PM} {ρ ρ' : RM} {S S' : Nat → Prop} {r : Option Nat} {L : Lo C}
def aB0 (Pg : Program) [Kn Pg] (f : FuncId) (args : List G) (mc : Nat → Ob) (xs : List (List Y0)) (tail : Option P) (pan : Bool) : Prop :=
 ∀ (E : Env Pg) (J : Nat → E.α → Prop) (Z : E.α → Prop) (ZP : P → E.α → Prop), (∀ k a x, J k a → xs[k]? = some x → E.Can a x) →
  (∀ k a x b a', J k a → xs[k]? = some x → E.Y a x b a' → match b with | .b true => J (k + 1) a' | .b false => Z a' | .p p => pan = true ∧ ZP p a') →
  ∀ A, J 0 A → bE E f args mc A fun y => (∃ v h' A', y = .ok v h' A' ∧ ((tail = none ∧ J xs.length A') ∨ Z A')) ∨ ∃ p h' A', y = .panic p h' A' ∧ ((tail = some p ∧ J xs.length A') ∨ ZP p A')
theorem wJ {id j b : Nat} {h : Nat → Ob} (hb : bL ρ j (upd h id .none j) = some b) : j ≠ id ∧ bL ρ j (h j) = some b := by
 by_cases e : j = id
 ·subst e; rw [aV] at hb; simp [bL] at hb
 ·rw [aZ _ _ e] at hb; exact ⟨e, hb⟩
theorem aKz {id b : Nat} {h : Nat → Ob} (hb : Own ρ (upd h id .none) S b) : Own ρ h S b := by
 rcases hb with hb | ⟨j, hb⟩
 ·exact .inl hb
 ·exact .inr ⟨j, (wJ hb).2⟩
theorem LSt.drop (H : LSt C σ a w π ρ S) (id : Nat) (hm1 : ∀ j, (σ.h j).men id = false) (hm2 : ∀ g ∈ σ.df, g.men id = false) : LSt C ⟨shy id σ.fr, upd σ.h id .none, σ.A, σ.df⟩ a w π ρ S := by
 have hne : ∀ i, i ≠ id → σ.h i ≠ .none → upd σ.h id Ob.none i ≠ .none := fun i hi hn => by rw [aZ _ _ hi]; exact hn
 have hshy : ∀ t i, (shy id σ.fr t).men i = true → i ≠ id ∧ (σ.fr t).men i = true := fun t i hm => by
  simp only [shy] at hm
  split at hm
  ·simp [G.men] at hm
  ·rename_i hf
   exact ⟨fun e => hf (e ▸ hm), hm⟩
 refine ⟨H.size, fun t => ?_, H.defs, ⟨H.rel.know, fun j => ?_, fun i j b hij hi hj => H.rel.apart i j b hij (wJ hi).2 (wJ hj).2, fun j b hb => H.rel.sep j b (wJ hb).2, H.rel.res, H.rel.inb, H.rel.gl⟩, H.step, fun t i hm => hne i (hshy t i hm).1 (H.wfr t i (hshy t i hm).2), fun j i hm => ?_, fun g hg i hm => ?_⟩
 ·show aK π ρ E.yv (shy id σ.fr t) _
  simp only [shy]
  split
  ·simp only [aK]
  ·exact H.vals t
 ·show jZ π ρ E.yv w j (upd σ.h id .none j)
  by_cases e : j = id
  ·subst e; rw [aV]; trivial
  ·rw [aZ _ _ e]; exact H.rel.objs j
 ·replace hm : (upd σ.h id Ob.none j).men i = true := hm
  by_cases e : j = id
  ·subst e; rw [aV] at hm; simp [Ob.men] at hm
  ·rw [aZ _ _ e] at hm
   refine hne i (fun e => ?_) (H.wfh j i hm)
   subst e; rw [hm1] at hm; cases hm
 ·refine hne i (fun e => ?_) (H.wfd g hg i hm)
  subst e; rw [hm2 g hg] at hm; cases hm
theorem aE3 (ok : L.Ok) {l : Nat} {fn : FuncId} (hfn : L.pan = true → (Pg.funcs[fn]?).isSome = true) {D : Nat} {ps : Array Tmp} (hps : ps.toList = L.ps) {bs : List (Nat × Obj)} (hlb : ∀ p ∈ bs, p.1 ≠ l) {f : FuncId} {args : List G} {mc : Nat → Ob} {N : Nat → Prop} (it : aB0 Pg f args mc L.xs L.tail L.pan)
  {h : Nat → Ob} {A : E.α} (h0 : L.I 0 h A) (H : Lp C ⟨L.fr, h, A, L.df⟩ a ((l, .loop (gI fn a.tmps ps L.assign L.body D .ready none)) :: bs) S π w) (hgl : Kn.good Pg π)
  (hk : ∀ b o v, π b o = some v → w.cell? ⟨b, o, none⟩ = some v) (hin : ∀ b, S b → b < w.heap.size) {vs : List Value} {ρ2 : RM} (hv : aQ π ρ2 (.func (.yield l) #[] #[]) args vs)
  (m1 : ∀ y id, jZ π ρ2 y w id (mc id)) (m2 : ∀ i j b, i ≠ j → bL ρ2 i (mc i) = some b → bL ρ2 j (mc j) ≠ some b) (m3 : ∀ i b, bL ρ2 i (mc i) = some b → ¬ S b ∧ N b) :
  CallsIn (MF Pg none) 0 Pg f ⟨vs⟩ w fun
   | .returned _, w3 => ∃ (jump : Option Code) (h' : Nat → Ob) (A' : E.α) (S' : Nat → Prop) (π' : PM) (o : Loop), (Instr.endLoop l).run Pg w3 = .ok jump (w3.putObj l (.loop o)) ∧ cG (fun b => S b ∨ N b) w π S' (w3.putObj l (.loop o)) π' ∧
     Lp C ⟨L.fr, h', A', L.df⟩ a ((l, .loop o) :: bs) S' π' (w3.putObj l (.loop o)) ∧ (match jump with | none => L.tail = none ∧ L.I L.xs.length h' A' | some c => ∃ e, jmp e = some c ∧ L.K e h' A')
   | .panicked chain, w3 => ∃ (p : P) (v : Value) (h' : Nat → Ob) (A' : E.α) (S' : Nat → Prop) (π' : PM) (o : Loop), chain = [{ v, recovered := false }] ∧ aS π' p v ∧ cG (fun b => S b ∨ N b) w π S' w3 π' ∧
     Lp C ⟨L.fr, h', A', L.df⟩ a ((l, .loop o) :: bs) S' π' w3 ∧ ((L.tail = some p ∧ L.I L.xs.length h' A') ∨ L.KP p h' A')
   | _, _ => False := by
 let E2 := aNW ok a l fn hfn D hps bs hlb
 have hR2 : Rel E2 π ρ2 mc (LS.run 0 h A) S w := ⟨hk, fun id => m1 _ id, m2, fun i b hi => (m3 i b hi).1, H, hin, hgl⟩
 have spec := it E2 (fun k s => ∃ h A, s = LS.run k h A ∧ L.I k h A) (fun s => ∃ c h A e, s = LS.jump c h A ∧ jmp e = some c ∧ L.K e h A) (fun p s => ∃ h A, s = LS.dead p h A ∧ L.KP p h A)
  (fun k s x ⟨h, A, e, hI⟩ hx => by subst e; exact ⟨hI, hx⟩)
  (fun k s x b s' ⟨h, A, e, hI⟩ hx hy => by
   subst e
   cases b with
   | b b =>
    cases b <;> cases s' <;> first | exact False.elim hy | skip
    ·obtain ⟨e, h1, h2⟩ := hy; exact ⟨_, _, _, e, rfl, h1, h2⟩
    ·obtain ⟨h1, h2⟩ := hy; exact ⟨_, _, by rw [h1], h2⟩
   | p p =>
    cases s' <;> first | exact False.elim hy | skip
    obtain ⟨h1, h2⟩ := hy; subst h1; exact ⟨(ok.wfP _ _ _ h2).1, _, _, rfl, h2⟩)
  (LS.run 0 h A) ⟨h, A, rfl, h0⟩
 refine (spec π ρ2 S w vs hR2 hv).mono fun e w3 k3 => ?_
 have hS : ∀ b, Own ρ2 mc S b → (S b ∨ N b) := fun b hb => by
  rcases hb with hb | ⟨id, hb⟩
  ·exact .inl hb
  ·exact .inr (m3 id b hb).2
 cases e with
 | outgrown => exact k3
 | panicked ch =>
  obtain ⟨π', ρ', h', A', S', p, v, hB, hch, hpv, hq⟩ := k3
  have hT := (hB.trans.weaken hS).shrink (O'' := S') fun b hb => .inl hb
  rcases hq with ⟨_, _, _, e, _⟩ | ⟨p', h1, A1, e, hq⟩
  ·cases e
  ·cases e
   rcases hq with ⟨ht, h2, A2, e, hI⟩ | ⟨h2, A2, e, hK⟩
   ·subst e
    exact ⟨p, v, h2, A2, S', π', _, hch, hpv, hT, hB.rel.res, .inl ⟨ht, hI⟩⟩
   ·subst e
    exact ⟨p, v, h2, A2, S', π', _, hch, hpv, hT, hB.rel.res, .inr hK⟩
 | returned v =>
  obtain ⟨π', ρ', h', A', S', g, hB, _, _, hq⟩ := k3
  have hq : (L.tail = none ∧ ∃ k h A, A' = LS.run k h A ∧ k = L.xs.length ∧ L.I k h A) ∨ ∃ c h A e, A' = LS.jump c h A ∧ jmp e = some c ∧ L.K e h A := by
   rcases hq with ⟨v, h1, A1, e, hq⟩ | ⟨_, _, _, e, _⟩
   ·cases e
    rcases hq with ⟨ht, h, A, e, hI⟩ | hq
    ·exact .inl ⟨ht, _, h, A, e, rfl, hI⟩
    ·exact .inr hq
   ·cases e
  have hT := (hB.trans.weaken hS).shrink (O'' := S') fun b hb => .inl hb
  have main : ∀ (st : LoopState) (pe : Option Code) (h1 : Nat → Ob) (A1 : E.α), st ≠ .busy → Lp C ⟨L.fr, h1, A1, L.df⟩ a ((l, .loop (gI fn a.tmps ps L.assign L.body D st pe)) :: bs) S' π' w3 →
    ∃ o, (Instr.endLoop l).run Pg w3 = .ok pe (w3.putObj l (.loop o)) ∧ cG (fun b => S b ∨ N b) w π S' (w3.putObj l (.loop o)) π' ∧ Lp C ⟨L.fr, h1, A1, L.df⟩ a ((l, .loop o) :: bs) S' π' (w3.putObj l (.loop o)) := fun st pe h1 A1 hst HL => by
   obtain ⟨ρ3, S3, H3, hb3, hS3⟩ := HL
   have hl3 := (hb3 _ (List.mem_cons_self ..)).1
   have hlt3 := (Array.getElem?_eq_some_iff.1 hl3).1
   refine ⟨_, run_endLoop hl3 hst, hT.trans (tW ((hS3 l).2 (.inr ⟨_, List.mem_cons_self .., rfl⟩))), ρ3, S3, H3.other (hb3 _ (List.mem_cons_self ..)).2 (fun o' ho => by rw [hl3] at ho; cases ho; rfl), fun p hp => ?_, fun b => (hS3 b).trans ?_⟩
   ·rcases List.mem_cons.1 hp with rfl | hp
    ·exact ⟨World.putObj_heap_same hlt3, (hb3 _ (List.mem_cons_self ..)).2⟩
    ·have := hb3 p (List.mem_cons_of_mem _ hp)
     exact ⟨(World.putObj_heap_other (hlb p hp)).trans this.1, this.2⟩
   ·simp
  rcases hq with ⟨ht, k, h1, A1, e, hk, hI⟩ | ⟨c, h1, A1, e, he, hj, hK⟩
  ·subst e
   obtain ⟨o, m1, m2, m3⟩ := main .ready none h1 A1 (by simp) hB.rel.res
   exact ⟨none, h1, A1, S', π', o, m1, m2, m3, ht, hk ▸ hI⟩
  ·subst he
   obtain ⟨o, m1, m2, m3⟩ := main .done (some c) h1 A1 (by simp) hB.rel.res
   exact ⟨some c, h1, A1, S', π', o, m1, m2, m3, e, hj, hK⟩
theorem aDP (L : Lo C) (ok : L.Ok) {g : Operand} {ps : Array Tmp} (hps : ps.toList = L.ps) {f : FuncId} {ga gb : List G} {id : Nat} {cs : List P} {assign body : Code} (hg : oF σ.fr g = some (f, ga, gb)) (hent : aJ Pg f)
  (hgb : ga = [] ∧ gb = [.ref id 0]) (hob : σ.h id = .cells (cs.map .p) 0) (hm1 : ∀ j, (σ.h j).men id = false) (hm2 : ∀ g ∈ σ.df, g.men id = false) (it : aB0 Pg f [.abs, .ref 0 0] (aG [(0, .cells (cs.map .p) 0)]) L.xs L.tail L.pan) (hfr : L.fr = shy id σ.fr) (hdf : L.df = σ.df) (has : L.assign = assign) (hbo : L.body = body) (h0 : L.I 0 (upd σ.h id .none) σ.A) {d : Nat} (hd : C.lim ≤ d)
  {Q : GE → Sg E → Prop} (hK : ∀ e h A, L.K e h A → h d = .none ∧ Q e ⟨L.fr, upd h d .mark, A, .mark d :: L.df⟩) (hP : ∀ p h A, ((L.tail = some p ∧ L.I L.xs.length h A) ∨ L.KP p h A) → h d = .none ∧ Q (.panic p) ⟨L.fr, upd h d .mark, A, .mark d :: L.df⟩) (hI : ∀ h A, L.tail = none → L.I L.xs.length h A → h d = .none ∧ Q .normal ⟨L.fr, upd h d .mark, A, .mark d :: L.df⟩) :
  ∀ a w, Holds C σ a w → ∀ fn : FuncId, (L.pan = true → (Pg.funcs[fn]?).isSome = true) → ∃ (l : Nat) (mark : List Deferred) (w₁ : World) (d : Deferred) (w₁' : World) (f : FuncId) (args : Array Value) (w₂ : World),
   (Instr.enterLoop fn a.tmps ps assign body none).run Pg w = .ok (l, mark) w₁ ∧
   (resolve a.eval (rangeCall g l) 0).run Pg w₁ = .ok d w₁' ∧
   (∀ f', Target.leads Pg w₁' d.target d.args = some f' → (MF Pg none).fn f') ∧
   (invoke d.target d.args).run Pg w₁' = .ok (.enter f args) w₂ ∧
   ((MF Pg none).depth.isSome = true → 1 ≤ 0) ∧
   CallsIn (MF Pg none) 0 Pg f args w₂ (rangePost (MF Pg none) 0 Pg l (cD C Q) { a with defers := mark ++ a.defers }) := by
 intro a w ⟨π, ρ, S, H⟩ fn hfn
 subst has hbo
 obtain ⟨us, vs, he, hu, hv⟩ := aBV H hg
 let D := w.heap.size
 let l := w.heap.size + 1
 let rc := gI fn a.tmps ps L.assign L.body D .ready none
 let w1 := (w.alloc (.deferred (some []))).alloc (.loop rc)
 have hl1 : w1.heap[l]? = some (.loop rc) := by
  have := World.alloc_heap_new (w.alloc (.deferred (some []))) (.loop rc); rwa [World.size_alloc] at this
 have hD1 : w1.heap[D]? = some (.deferred (some [])) := (Below.heap_alloc _ _ _ (by simp [D])).trans (World.alloc_heap_new w _)
 have hLS : LSt C ⟨L.fr, upd σ.h id .none, σ.A, L.df⟩ a w1 π ρ S := by rw [hfr, hdf]; exact ((H.ls.drop id hm1 hm2).alloc _).alloc _
 have hor : jZ π ρ E.yv w id (.cells (cs.map .p) 0) := hob ▸ H.rel.objs id
 have hlive : bL ρ id (σ.h id) = some (ρ id).blk := by rw [hob]; rfl
 have hlt : (ρ id).blk < w.heap.size := (H.rel.objs id).lt hlive
 have hno : ∀ b, w.heap.size ≤ b → ¬ Own ρ (upd σ.h id .none) S b := fun b hb ho => by have := aCJ (H.ls.drop id hm1 hm2).rel ho; omega
 let S1 : Nat → Prop := fun b => Own ρ (upd σ.h id .none) S b ∨ ∃ p ∈ [(l, Obj.loop rc), (D, .deferred (some []))], p.1 = b
 have HL : Lp C ⟨L.fr, upd σ.h id .none, σ.A, L.df⟩ a [(l, .loop rc), (D, .deferred (some []))] S1 π w1 := ⟨ρ, S, hLS, fun p hp => by
   simp only [List.mem_cons, List.not_mem_nil, or_false] at hp
   rcases hp with rfl | rfl
   ·exact ⟨hl1, hno _ (by simp [l])⟩
   ·exact ⟨hD1, hno _ (by simp [D])⟩, fun _ => Iff.rfl⟩
 let N : Nat → Prop := fun b => b = (ρ id).blk
 have hT1 : cG C.O0 C.w0 C.π0 (fun b => S1 b ∨ N b) w1 π := by
  refine ⟨Nat.le_trans H.trans.size (by simp [w1]; omega), H.trans.os, H.trans.tape, H.trans.output, fun b hb hn => ?_, H.trans.le, fun b hb => ?_⟩
  ·have hb' : b < w.heap.size := Nat.lt_of_lt_of_le hb H.trans.size
   refine ⟨?_, (H.trans.keep b hb hn).2⟩
   exact ((Below.heap_alloc _ _ b (by simp; omega)).trans (Below.heap_alloc w _ b hb')).trans (H.trans.keep b hb hn).1
  ·rcases hb with (hb | ⟨p, hp, rfl⟩) | hb
   ·exact H.trans.own b (aKz hb)
   ·have := H.trans.size
    simp only [List.mem_cons, List.not_mem_nil, or_false] at hp
    rcases hp with rfl | rfl
    ·exact .inr (by simp [l]; omega)
    ·exact .inr (by simp [D]; omega)
   ·exact H.trans.own b (.inr ⟨id, by rw [hlive, show b = (ρ id).blk from hb]⟩)
 obtain ⟨dd, hres, hinv, hld⟩ := uM he hent l w1
 obtain ⟨hga, hgb⟩ := hgb
 subst hga hgb
 simp only [aQ, aK] at hu hv
 subst hu
 obtain ⟨_, _, rfl, rfl, rfl⟩ := hv
 have hargs : aQ π (fun _ => ρ id) (.func (.yield l) #[] #[]) [.abs, .ref 0 0] ([] ++ (.func (.yield l) #[] #[] :: [.pointer (some ⟨(ρ id).blk, 0, none⟩)])) := by
  simp only [aQ, aK, List.nil_append]; exact ⟨_, _, rfl, rfl, _, _, rfl, rfl, rfl⟩
 have hw1 : w1.heap[(ρ id).blk]? = w.heap[(ρ id).blk]? := (Below.heap_alloc _ _ _ (by simp; omega)).trans (Below.heap_alloc w _ _ hlt)
 have hm0 : ∀ i b, bL (fun _ => ρ id) i (aG [(0, (.cells (cs.map .p) 0 : Ob))] i) = some b → i = 0 ∧ b = (ρ id).blk := fun i b hb => by
  simp only [aE, aI] at hb
  split at hb
  ·simp only [bL, Option.some.injEq] at hb; exact ⟨by assumption, hb.symm⟩
  ·simp [bL] at hb
 refine ⟨l, [{ target := .collected D, args := #[] }], w1, dd, w1, f, _, w1, run_enterLoop_outer _ _ _ _ _, hres, fun f' hf' => ?_, hinv, fun h => by simp [Fence.wide] at h, ?_⟩
 ·trivial
 refine iV ((aE3 (N := N) ok hfn hps (bs := [(D, .deferred (some []))]) (fun p hp => by simp at hp; subst hp; simp [D, l]) it h0 HL H.rel.gl (eW (eW H.rel.know _) _) (fun b hb => ?_) hargs (fun y i => ?_) (fun i j b hij hi hj => hij (((hm0 i b hi).1).trans ((hm0 j b hj).1).symm)) (fun i b hb => ⟨fun hs => ?_, (hm0 i b hb).2⟩)).mono fun e w3 k3 => ?_)
 ·rcases hb with hb | ⟨p, hp, rfl⟩
  ·have := aCJ (H.ls.drop id hm1 hm2).rel hb; simp [w1]; omega
  ·simp only [List.mem_cons, List.not_mem_nil, or_false] at hp
   rcases hp with rfl | rfl <;> simp [w1, l, D]
   omega
 ·simp only [aE, aI]
  split
  ·obtain ⟨us2, e2, c1, c2, c3, c4, c5⟩ := hor
   refine ⟨us2, e2, hw1.trans c1, .of_PRels (aU.of_VRels c2), c3, c4, c5⟩
  ·trivial
 ·obtain ⟨_, rfl⟩ := hm0 i b hb
  rcases hs with (hs | ⟨j, hs⟩) | ⟨p, hp, hs⟩
  ·exact H.rel.sep id _ hlive hs
  ·by_cases ej : j = id
   ·subst ej; rw [aV] at hs; simp [bL] at hs
   ·rw [aZ _ _ ej] at hs; exact H.rel.apart j id _ ej hs hlive
  ·simp only [List.mem_cons, List.not_mem_nil, or_false] at hp
   rcases hp with rfl | rfl <;> simp [l, D] at hs <;> omega
 have build : ∀ (W : World) (π' : PM) (S' : Nat → Prop) (h' : Nat → Ob) (A' : E.α) (o : Loop), cG (fun b => S1 b ∨ N b) w1 π S' W π' → Lp C ⟨L.fr, h', A', L.df⟩ a [(l, .loop o), (D, .deferred (some []))] S' π' W → h' d = .none →
   ∃ ρ4 S4, St C ⟨L.fr, upd h' d .mark, A', .mark d :: L.df⟩ { a with defers := [{ target := .collected D, args := #[] }] ++ a.defers } W π' ρ4 S4 := fun W π' S' h' A' o hT HLp hhd => by
  obtain ⟨ρ3, S3, H3, hb3, hS3⟩ := HLp
  have hdm : ∀ j, (h' j).men d = false := fun j => by
   cases hm : (h' j).men d with
   | false => rfl
   | true => exact absurd hhd (H3.wfh j d hm)
  have hDb := hb3 (D, .deferred (some [])) (by simp)
  have R4 := H3.rel.mark hhd hdm hDb.1 hDb.2
  have hne : ∀ id, h' id ≠ .none → upd h' d Ob.mark id ≠ .none := fun id hid => by
   simp only [upd]; split
   ·simp
   ·exact hid
  have hidd : ∀ id, h' id ≠ .none → upd ρ3 d ⟨D, undef, 0⟩ id = ρ3 id := fun id hid => aZ _ _ fun e => hid (e ▸ hhd)
  refine ⟨upd ρ3 d ⟨D, undef, 0⟩, S3, H3.size, fun t => (H3.vals t).mono (PM.le_refl _) fun id hm => .inl (hidd id (H3.wfr t id hm)), ?_, R4, ?_, fun j hj => ?_, fun t id hm => hne id (H3.wfr t id hm), fun j id hm => ?_, fun g hg id hm => ?_⟩
  ·exact ⟨_, _, rfl, by simp [aGJ, aV], H3.defs.mono (PM.le_refl _) fun id g hg hm => .inl (hidd id (H3.wfd g hg id hm))⟩
  ·refine (hT1.trans hT).shrink fun b hb => (hS3 b).2 ?_
   rcases hb with hb | ⟨id, hb⟩
   ·exact .inl (.inl hb)
   ·by_cases e : id = d
    ·subst e
     simp only [aV, bL, Option.some.injEq] at hb
     exact .inr ⟨(D, .deferred (some [])), by simp, hb⟩
    ·simp only [aZ _ _ e] at hb
     refine .inl (.inr ⟨id, ?_⟩)
     have e2 : upd ρ3 d ⟨D, undef, 0⟩ id = ρ3 id := aZ _ _ e
     show bL ρ3 id (h' id) = some b
     cases ho : h' id <;> rw [ho] at hb <;> simp only [bL, e2, reduceCtorEq] at hb ⊢ <;> exact hb
  ·rw [aZ _ _ (by omega)]; exact H3.step j hj
  ·simp only [upd] at hm
   split at hm
   ·simp [Ob.men] at hm
   ·exact hne id (H3.wfh j id hm)
  ·rcases List.mem_cons.1 hg with rfl | hg
   ·simp only [GD.men, beq_iff_eq] at hm
    subst hm
    show upd h' d Ob.mark d ≠ .none
    rw [aV]; simp
   ·exact hne id (H3.wfd g hg id hm)
 cases e with
 | outgrown => exact k3.elim
 | panicked ch =>
  obtain ⟨p, v, h', A', S', π', o, hch, hpv, hT, HLp, hj⟩ := k3
  obtain ⟨hhd, hq⟩ := hP p h' A' hj
  obtain ⟨ρ4, S4, hSt⟩ := build _ _ _ _ _ _ hT HLp hhd
  exact ⟨_, p, v, π', ρ4, S4, hch, hpv, hSt, hq⟩
 | returned v =>
  obtain ⟨jump, h', A', S', π', o, hend, hT, HLp, hj⟩ := k3
  have hhd : h' d = .none := by
   cases jump with
   | none => exact (hI h' A' hj.1 hj.2).1
   | some c => obtain ⟨e, _, hk⟩ := hj; exact (hK e h' A' hk).1
  obtain ⟨ρ4, S4, hSt⟩ := build _ _ _ _ _ _ hT HLp hhd
  refine ⟨jump, _, hend, ?_⟩
  cases jump with
  | none => exact ⟨_, ⟨π', _, S4, hSt⟩, (hI h' A' hj.1 hj.2).2⟩
  | some c =>
   obtain ⟨e, hjm, hk⟩ := hj
   exact aAR hjm ⟨π', _, S4, hSt⟩ (hK e h' A' hk).2
end
section
open Go.RowKit
section
variable {Pg : Program} [Kn Pg] {E : Env Pg} {C : Cx E} {σ : Sg E} {r : Option Nat}
theorem aE4 {e : Bool} (L : Lo C) (ok : L.Ok) {g : Operand} {ps : Array Tmp} (hps : ps.toList = L.ps) {f : FuncId} {ga gb : List G} {id : Nat} {cs : List P} {assign body : Code} (hg : oF σ.fr g = some (f, ga, gb)) (hent : aJ Pg f)
  (hgb : ga = [] ∧ gb = [.ref id 0]) (hob : σ.h id = .cells (cs.map .p) 0) (hm1 : ∀ j, (σ.h j).men id = false) (hm2 : ∀ g ∈ σ.df, g.men id = false) (it : aB0 Pg f [.abs, .ref 0 0] (aG [(0, .cells (cs.map .p) 0)]) L.xs L.tail L.pan) (hfr : L.fr = shy id σ.fr) (hdf : L.df = σ.df) (has : L.assign = assign) (hbo : L.body = body) (h0 : L.I 0 (upd σ.h id .none) σ.A) {d : Nat} (hd : C.lim ≤ d)
  {Q : GE → Sg E → Prop} (hK : ∀ e h A, L.K e h A → h d = .none ∧ Q e ⟨L.fr, upd h d .mark, A, .mark d :: L.df⟩) (hP : ∀ p h A, ((L.tail = some p ∧ L.I L.xs.length h A) ∨ L.KP p h A) → h d = .none ∧ Q (.panic p) ⟨L.fr, upd h d .mark, A, .mark d :: L.df⟩) (hI : ∀ h A, L.tail = none → L.I L.xs.length h A → h d = .none ∧ Q .normal ⟨L.fr, upd h d .mark, A, .mark d :: L.df⟩)
  (he : L.pan = true → e = true) : qR e C none (.rangeFunc g ps assign body) Q σ :=
 ⟨fun a w H => uN fun fn hfn => aDP L ok hps hg hent hgb hob hm1 hm2 it hfr hdf has hbo h0 hd hK hP hI a w H fn fun hp => hfn (he hp)⟩
end
variable {Pg : Program} [Kn Pg] {E : Env Pg} {C : Cx E} {r : Option Nat} {ops : Array Oper} {Q : GE → Sg E → Prop} {l : List (Nat × G)} {m : List (Nat × Ob)} {A : E.α} {df : List GD}
def aDQ (id : Nat) (l : List (Nat × G)) : List (Nat × G) := l.map fun p => (p.1, bif p.2.men id then .undef else p.2)
def tF (id : Nat) : List (Nat × Ob) → List (Nat × Ob)
 | [] => []
 | p :: m => bif p.1 == id then tF id m else p :: tF id m
theorem tX {id : Nat} : ∀ {l : List (Nat × G)}, bA (aDQ id l) = shy id (bA l)
 | [] => by funext t; simp [aDQ, shy, bA, G.men]
 | p :: l => by
  funext t
  have ih := congrFun (tX (id := id) (l := l)) t
  simp only [aDQ, List.map_cons] at ih ⊢
  rw [aT, ih]
  simp only [shy]
  rw [aT]
  by_cases e : t = p.1
  ·simp only [e, if_true]; cases p.2.men id <;> simp
  ·simp only [e, if_false]
theorem qT {id : Nat} : ∀ {m : List (Nat × Ob)}, aG (tF id m) = upd (aG m) id .none
 | [] => by funext j; simp [tF, upd, aG]
 | p :: m => by
  funext j
  have ih := congrFun (qT (id := id) (m := m)) j
  simp only [tF]
  by_cases e : p.1 = id
  ·rw [show (p.1 == id) = true by simpa using e, cond_true, ih]
   simp only [upd]
   by_cases ej : j = id
   ·simp [ej]
   ·rw [if_neg ej, if_neg ej, aE, if_neg (by rw [e]; exact ej)]
  ·rw [show (p.1 == id) = false by simpa using e, cond_false, aE, ih]
   simp only [upd]
   by_cases ej : j = id
   ·rw [if_pos ej, if_pos ej, if_neg (by rw [ej]; exact fun h => e h.symm)]
   ·rw [if_neg ej, if_neg ej, aE]
theorem aG1 {Z : Type} {e : Bool} {ps : Array Nat} {g : Operand} {assign body : Code} {f : FuncId} {ga gb : List G} {l1 : List (Nat × G)} {m1 : List (Nat × Ob)} {cs : List P} (lim d id : Nat) (psl : List Nat) (xs : List (List Y0)) (tail : Option P) (pan : Bool) (I : Nat → Z → E.α → Prop) (mI : Z → List (Nat × Ob)) (K : GE → Z → E.α → Prop) (mK : GE → Z → List (Nat × Ob)) (KP : P → Z → E.α → Prop) (mP : P → Z → List (Nat × Ob))
  (it : aB0 Pg f [.abs, .ref 0 0] (aG [(0, .cells (cs.map .p) 0)]) xs tail pan) (hent : aJ Pg f) (hg : oF (bA l) g = some (f, ga, gb)) (hgb : ga = [] ∧ gb = [.ref id 0]) (hob : aG m id = .cells (cs.map .p) 0) (hn1 : id ∉ bM m (m.map (·.1))) (hn2 : id ∉ dP df) (hl1 : aDQ id l = l1) (hm1 : tF id m = m1)
  (hps : ps.toList = psl) (hlim : C.lim ≤ lim) (hlim2 : lim ≤ 90000) (hpn : ∀ p ∈ psl, p < C.N) (hlen : ∀ x ∈ xs, x.length = psl.length) (hd : C.lim ≤ d) (wI : ∀ k z A, I k z A → wG l1 df lim d (mI z)) (wK : ∀ e z A, K e z A → wG l1 df lim d (mK e z)) (hshp : ∀ x ∈ xs, (∃ ys : List P, x = ys.map Y0.p) ∨ ∃ cs, x = [.o cs]) (wP : ∀ p z A, KP p z A → pan = true ∧ wG l1 df lim d (mP p z))
  (h0 : ∃ z, I 0 z A ∧ mI z = m1)
  (round : ∀ k z A' x, I k z A' → xs[k]? = some x → ∀ (lp : Nat) (bs : List (Nat × Obj)) (C1 : Cx (E.guard bs)), C1.N = C.N → C1.lim = lim →
   gwp C1 (some lp) assign (fun e σ => e = .normal ∧ ∀ (bs : List (Nat × Obj)) (C2 : Cx (E.guard bs)), C2.N = C.N → C2.lim = lim → (∃ r0, (lp, Obj.loop r0) ∈ bs) → gwp C2 (some lp) body (fun e σ => match e with
    | .normal => ∃ σ3 z, Le C2 σ σ3 ∧ σ3.h = aG (mI z) ∧ I (k + 1) z σ3.A
    | .panic p => σ.df = [] ∧ ∃ z, Sub (aG (mP p z)) σ.h ∧ KP p z σ.A
    | e => ∃ σ3 z, Le C2 σ σ3 ∧ σ3.h = aG (mK e z) ∧ K e z σ3.A) ⟨σ.fr, σ.h, σ.A, σ.df⟩) ⟨zP (bA l1) psl x, qA (aG (mI z)) x, A', []⟩)
  (hK : ∀ e z A', K e z A' → Q e (sg l1 ((d, .mark) :: mK e z) A' (.mark d :: df))) (hP : ∀ p z A', KP p z A' → Q (.panic p) (sg l1 ((d, .mark) :: mP p z) A' (.mark d :: df))) (hT : ∀ p z A', tail = some p → I xs.length z A' → Q (.panic p) (sg l1 ((d, .mark) :: mI z) A' (.mark d :: df))) (hI : ∀ z A', tail = none → I xs.length z A' → Q .normal (sg l1 ((d, .mark) :: mI z) A' (.mark d :: df)))
  (he : pan = true → e = true) : qR e C none (.rangeFunc g ps assign body) Q (sg l m A df) := by
 let L : Lo C := { fr := bA l1, df := df, ps := psl, assign, body, xs, tail, pan, lim, KP := fun p h A => ∃ z, h = aG (mP p z) ∧ KP p z A, I := fun k h A => ∃ z, h = aG (mI z) ∧ I k z A, K := fun e h A => ∃ z, h = aG (mK e z) ∧ K e z A }
 have ok : L.Ok := by
  refine ⟨hlim, hlim2, hpn, hlen, hshp, ?_, ?_, ?_, ?_⟩
  ·rintro k h A ⟨z, rfl, hI⟩
   exact ⟨(wI k z A hI).wf (L := L) rfl rfl, fun id => aBY (wI k z A hI).lt⟩
  ·rintro e h A ⟨z, rfl, hK⟩
   exact (wK e z A hK).wf (L := L) rfl rfl
  ·rintro p h A ⟨z, rfl, hK⟩
   exact ⟨(wP p z A hK).1, (wP p z A hK).2.wf (L := L) rfl rfl⟩
  ·rintro k h A x ⟨z, rfl, hI⟩ hx lp bs C1 hN hL
   refine tB (round k z A x hI hx lp bs C1 hN hL) fun e σ1 hq => ?_
   obtain ⟨rfl, hq⟩ := hq
   intro bs C2 hN2 hL2 hr
   refine tB (hq bs C2 hN2 hL2 hr) fun e σ hq => ?_
   cases e with
   | normal => obtain ⟨σ3, z, h1, h2, h3⟩ := hq; exact ⟨σ3, h1, z, h2, h3⟩
   | panic p => obtain ⟨hd0, z, h1, h2⟩ := hq; exact ⟨hd0, _, h1, z, rfl, h2⟩
   | exit i => obtain ⟨σ3, z, h1, h2, h3⟩ := hq; exact ⟨σ3, h1, z, h2, h3⟩
   | goto i => obtain ⟨σ3, z, h1, h2, h3⟩ := hq; exact ⟨σ3, h1, z, h2, h3⟩
   | ret => obtain ⟨σ3, z, h1, h2, h3⟩ := hq; exact ⟨σ3, h1, z, h2, h3⟩
 obtain ⟨z0, hz0, hm0⟩ := h0
 refine aE4 (d := d) L ok hps hg hent hgb hob (fun j => ?_) (fun g hg2 => ?_) it (by show bA l1 = _; rw [← hl1, tX]) rfl rfl rfl ⟨z0, by show upd (aG m) id .none = _; rw [hm0, ← hm1, qT], hz0⟩ hd ?_ ?_ ?_ he
 ·cases e2 : (aG m j).men id with
  | false => rfl
  | true => exact absurd (pI (aBX fun e => by rw [e] at e2; simp [Ob.men] at e2) e2) hn1
 ·cases e2 : g.men id with
  | false => rfl
  | true => exact absurd (xQ hg2 e2) hn2
 ·rintro e h A ⟨z, rfl, hk⟩
  exact ⟨(wK e z A hk).d, hK e z A hk⟩
 ·rintro p h A (⟨ht, z, rfl, hi⟩ | ⟨z, rfl, hk⟩)
  ·exact ⟨(wI _ z A hi).d, hT p z A ht hi⟩
  ·exact ⟨(wP p z A hk).2.d, hP p z A hk⟩
 ·rintro h A ht ⟨z, rfl, hi⟩
  exact ⟨(wI _ z A hi).d, hI z A ht hi⟩
theorem aMs {id j : Nat} (h : id ∉ bM m (m.map (·.1))) : (aG m j).men id = false := by
 cases e2 : (aG m j).men id with
 | false => rfl
 | true => exact absurd (pI (aBX fun e => by rw [e] at e2; simp [Ob.men] at e2) e2) h
theorem aMt {id : Nat} {g : GD} (h : id ∉ dP df) (hg : g ∈ df) : g.men id = false := by
 cases e2 : g.men id with
 | false => rfl
 | true => exact absurd (xQ hg e2) h
theorem aCM {cl : Call} {id : Nat} {cs : List P} {x y : Operand} {t : Nat} {ty : TypeId} {pos : String} {af : Array Edge} {gd : Option (Nat × Bool)} {l1 : List (Nat × G)} {m1 : List (Nat × Ob)} {K : Sg E → Prop} (hx : cl.callee = .value x) (hw : dM ops (bA l) ⟨some t, .call cl, ty, pos, af, gd⟩ = some true) (hy : gev (bA l) x = .abs) (hcl : cl.args.toList = [y]) (hgs : gev (bA l) y = .ref id 0)
  (hob : aG m id = .cells (cs.map .p) 0) (hid : C.lim ≤ id) (hn1 : id ∉ bM m (m.map (·.1))) (hn2 : id ∉ dP df) (hl1 : aDQ id l = l1) (hm1 : tF id m = m1) (hcan : E.Can A [.o cs]) (ht : t < C.N)
  (k : ∀ b A', E.Y A [.o cs] (.b b) A' → K (sg ((t, .p (.bool b)) :: l1) m1 A' df)) (kp : ∀ p A', E.Y A [.o cs] (.p p) A' → Q (.panic p) (sg l1 m1 A' df)) :
  qP C r ops ⟨some t, .call cl, ty, pos, af, gd⟩ (sg l m A df) K Q :=
 aDG (o := ⟨some t, .call cl, ty, pos, af, gd⟩) (σ := sg l m A df) rfl hx hw hy hcl hgs hob hid (fun j => aMs hn1) (fun g hg => aMt hn2 hg) hcan (fun t' e => by cases e; exact ht)
  (fun b A' h => by have := k b A' h; rw [← hl1, ← hm1] at this; simp only [sg, bA, tX, qT] at this; exact this)
  (fun p A' h => by have := kp p A' h; rw [← hl1, ← hm1] at this; simp only [sg, tX, qT] at this; exact this)
end
section
open Go.RowKit
variable {Pg : Program}
def Env.base (Pg : Program) : Env Pg where
 α := Unit
 yv := .nilFunc
 one := rfl
 Res := fun _ S _ _ => ∀ b, ¬ S b
 Can := fun _ _ => False
 Y := fun _ _ _ _ => False
 stable := fun h _ _ _ _ _ => h
 ycall := fun h => h.elim
def eP (w : World) : PM := fun b o => w.cell? ⟨b, o, none⟩
variable [Kn Pg]
theorem aIO (w : World) (hg : Kn.good Pg (eP w)) : Rel (Env.base Pg) (eP w) (fun _ => ⟨0, .nilFunc, 0⟩) (aG []) () (fun _ => False) w where
 know := fun _ _ _ h => h
 objs := fun id => by simp [jZ, aI]
 apart := fun i j b hij h => by simp [bL, aI] at h
 sep := fun i b h => by simp [bL, aI] at h
 res := fun b h => h
 inb := fun b h => h.elim
 gl := hg
theorem aIP {f : FuncId} {ps : List P} {v : P} {vs : List Value} {w : World} (hs : bZ Pg f ps (.ok v)) (hg : Kn.good Pg (eP w)) (hv : aU (eP w) ps vs) :
  Calls Pg f ⟨vs⟩ w fun e w' => ∃ u π', e = .returned u ∧ aS π' v u ∧ Below w.heap.size w w' := by
 have h := hs (Env.base Pg) () (eP w) (fun _ => ⟨0, .nilFunc, 0⟩) (fun _ => False) w vs (aIO w hg) (aQ.of_PRels hv)
 refine (h.calls fun _ => room_wide _).mono fun e w' k => ?_
 have key : ∀ {π' ρ' h' A' S'}, lD (Env.base Pg) (eP w) (fun _ => ⟨0, .nilFunc, 0⟩) (aG []) (fun _ => False) w π' ρ' h' A' S' w' → Below w.heap.size w w' := fun b => by
  have t := b.trans
  refine ⟨t.os, t.tape, t.output, t.size, fun b hb => (t.keep b hb fun ho => ?_).1⟩
  rcases ho with ho | ⟨id, ho⟩
  ·exact ho
  ·simp [bL, aI] at ho
 cases e with
 | returned u =>
  obtain ⟨π', ρ', h', A', S', g, b, hvr, _, hR⟩ := k
  simp only [dS.at, cK.ok.injEq] at hR
  obtain ⟨rfl, _, _⟩ := hR
  exact ⟨u, π', rfl, by simpa only [aK] using hvr, key b⟩
 | panicked chain =>
  obtain ⟨π', ρ', h', A', S', p, v', b, _, _, hR⟩ := k
  simp [dS.at] at hR
 | outgrown => exact k.elim
end
section
open Go.RowKit
variable {Pg : Program} [Kn Pg] {E : Env Pg} {C : Cx E} {r : Option Nat} {ops : Array Oper} {Q : GE → Sg E → Prop} {l l' : List (Nat × G)} {m m' : List (Nat × Ob)} {A : E.α} {df : List GD} {σ σ0 : Sg E}
theorem xW {f : FuncId} {args : List P} {p : P} (h : ∀ π w vs, Kn.good Pg π → (∀ b o v, π b o = some v → w.cell? ⟨b, o, none⟩ = some v) → aU π args vs →
  Calls Pg f ⟨vs⟩ w fun e w' => ∃ v π', e = .returned v ∧ aS π' p v ∧ Below w.heap.size w w' ∧ PM.le π π' ∧ (∀ b o v, π' b o = some v → w'.cell? ⟨b, o, none⟩ = some v) ∧ ∀ b, b < w.heap.size → π' b = π b) : bZ Pg f args (.ok p) := by
 intro E A π ρ S w vs R hv
 refine (callsIn_wide.2 (h π w vs R.gl R.know (aU.of_VRels hv))).mono fun e w' k => ?_
 obtain ⟨v, π', rfl, hpv, hb, hle, hk, hs⟩ := k
 have hsame : ∀ b, b < w.heap.size → w'.heap[b]? = w.heap[b]? ∧ π' b = π b := fun b hb' => ⟨hb.block b hb', hs b hb'⟩
 have hn : ∀ i b, bL ρ i (aG [] i) = some b → False := fun i b h => by simp [bL, aI] at h
 refine ⟨π', ρ, aG [], A, S, .p p, ⟨⟨hk, fun id => by simp [jZ, aI], fun i j b _ hi => (hn i b hi).elim, fun i b hi => (hn i b hi).elim, E.stable R.res R.inb hb.size (fun b hb' => hsame b (R.inb b hb')) hle hk, fun b hb' => Nat.lt_of_lt_of_le (R.inb b hb') hb.size, Kn.mono hle R.gl⟩,
  ⟨hb.size, hb.os, hb.tape, hb.output, fun b hb' _ => hsame b hb', hle, fun b hb' => .inl hb'⟩, fun _ _ => .inl rfl, fun j id hm => by simp [Ob.men, aI] at hm⟩, by simpa only [aK] using hpv, fun id hm => by simp [G.men] at hm, rfl⟩
theorem fW {f : FuncId} {args : List P} {p : P} {v : Value} (hpv : ∀ π, aS π p v) (h : ∀ π w vs, Kn.good Pg π → (∀ b o v, π b o = some v → w.cell? ⟨b, o, none⟩ = some v) → aU π args vs →
  Calls Pg f ⟨vs⟩ w fun e w' => e = .returned v ∧ Below w.heap.size w w') : bZ Pg f args (.ok p) :=
 xW fun π w vs hg hk hv => (h π w vs hg hk hv).mono fun e w' ⟨he, hb⟩ => ⟨v, π, he, hpv π, hb, PM.le_refl _, fun b o v hv => by
  have := hk b o v hv
  have hlt : b < w.heap.size := World.block_lt_of_cell? w ⟨b, o, none⟩ this
  exact (World.cell?_of_block (hb.block b hlt)).trans this, fun _ _ => rfl⟩
theorem wL {o : Oper} {I : List Nat} {g : G} (hnc : ∀ cl, o.op ≠ .call cl) (hnd : ∀ cl, o.op ≠ .defer cl) (hw : dM ops σ.fr o = some true) (hgm : ∀ id, g.men id = false) (hdst : ∀ t, o.dst = some t → t < C.N)
  (hrun : ∀ σ' : Sg E, aBJ ops o I σ σ' → ∀ a w π ρ S, St C σ' a w π ρ S → ∃ v, (execOp a.eval o).run Pg w = .ok (.value v) w ∧ aK π ρ E.yv g v) : Eff C r ops o σ I g [] := by
 intro σ' hA a w ⟨π, ρ, S, H⟩ K Q hK
 have hwt := fP H ((kQ hA).trans hw)
 unfold wpO
 rw [hwt]
 simp only [if_true]
 refine ⟨fun f' hf' => (by rw [kR hnc] at hf'; cases hf'), ?_⟩
 obtain ⟨v, hr, hv⟩ := hrun σ' hA a w π ρ S H
 have hsem : Oper.semAt (MF Pg r).round a.eval o = execOp a.eval o := by
  cases r with
  | none => rfl
  | some l => exact Oper.semAt_some l _ _ fun cl hcl => hnd cl hcl
 rw [hsem, hr]
 exact hK _ _ ⟨π, ρ, S, H.putReg hdst hv fun id hm => by rw [hgm] at hm; cases hm⟩
theorem aIQ {o : Oper} {t e : TypeId} {i j : TI} {m gl : Nat} {ix : Operand} {k : IntKind} {n : Int} {x : P} (hop : o.op = .indexAddr t (.global gl) ix) (ht : ti Pg t = some i) (hd : i.desc = .array m e) (he : ti Pg e = some j) (hw : dM ops σ.fr o = some true)
  (hix : gev σ.fr ix = .p (.int k n)) (h0 : 0 ≤ n) (h1 : n < m) (h1x : x.one = true) (hx : ∀ π, Kn.good Pg π → ∃ u, π gl (n.toNat * j.size) = some u ∧ aS π x u) (hdst : ∀ t, o.dst = some t → t < C.N) : Eff C r ops o σ [] (.ptr [.p x]) [] :=
 wL (fun cl h => by rw [hop] at h; cases h) (fun cl h => by rw [hop] at h; cases h) hw (fun id => rfl) hdst fun σ' hA a w π ρ S H => by
  have hix' : gev σ'.fr ix = .p (.int k n) := by rw [nV hA ix (by rw [hop]; simp [Op.operands])]; exact hix
  have vx := fO H ix
  rw [hix'] at vx
  simp only [aK, aS] at vx
  obtain ⟨u, hu, hr⟩ := hx π H.rel.gl
  obtain ⟨dst, op, ty, pos, af, gd⟩ := o
  simp only at hop
  subst hop
  refine ⟨.pointer (some ⟨gl, 0 + n.toNat * j.size, none⟩), ?_, ?_⟩
  ·have := jK ht hd he k n gl 0 h0 h1 w
   have hg : a.eval (.global gl) = .pointer (some ⟨gl, 0, none⟩) := rfl
   simp [execOp, hg, vx, this]
  ·simp only [aK, eN]
   exact ⟨_, _, rfl, ⟨u, by rw [Nat.zero_add]; exact hu, hr, h1x⟩, trivial⟩
theorem aAV : ∀ l : List UInt8, (l.map fun b => P.int .u8 (b.toNat : Int)).flatMap P.cells = l.map fun b => P.int .u8 (b.toNat : Int)
 | [] => rfl
 | b :: l => by simp only [List.map_cons, List.flatMap_cons, aAV l]; rfl
theorem aKA {o : Oper} {t d e : TypeId} {i j : TI} {x : Operand} {l : List UInt8} (hop : o.op = .convert t d x) (ht : ti Pg t = some i) (hd : i.desc = .slice e) (he : Pg.underlying e = some (.int .u8)) (hj : ti Pg d = some j) (hdj : j.desc = .string) (hw : dM ops σ.fr o = some true)
  (hx : gev σ.fr x = .p (.list (l.map fun b => .int .u8 b.toNat))) (hdst : ∀ t, o.dst = some t → t < C.N) : Eff C r ops o σ [] (.p (.str l)) [] :=
 wL (fun cl h => by rw [hop] at h; cases h) (fun cl h => by rw [hop] at h; cases h) hw (fun id => rfl) hdst fun σ' hA a w π ρ S H => by
  have hx' : gev σ'.fr x = .p (.list (l.map fun b => .int .u8 b.toNat)) := by rw [nV hA x (by rw [hop]; simp [Op.operands])]; exact hx
  have vx := fO H x
  rw [hx'] at vx
  simp only [aK, aS] at vx
  obtain ⟨ad, len, cap, ev, hl, hc, hcell⟩ := vx
  obtain ⟨_, _, hu1, _⟩ := dA ht
  obtain ⟨_, _, hu2, _⟩ := dA hj
  rw [hd] at hu1
  rw [hdj] at hu2
  rw [List.length_map] at hl
  obtain ⟨dst, op, ty, pos, af, gd⟩ := o
  simp only at hop
  subst hop
  refine ⟨.string ⟨⟨l⟩⟩, ?_, by simp only [aK, aS]⟩
  rcases hcell with ⟨rfl, rfl⟩ | ⟨b, o, rfl, hel⟩
  ·have hl0 : l = [] := List.eq_nil_of_length_eq_zero (by omega)
   subst hl0
   have := run_convert_bytes_nil (P := Pg) (w := w) t e hu1 he len 0 d hu2
   simp [execOp, ev, this]
   rfl
  ·have hrow := bD.row.1 hel
   have := run_convert_bytes_back (P := Pg) w t d e ⟨b, o, none⟩ cap l hu1 he hu2 (fun j hj => by
    obtain ⟨u, hu, hr, _⟩ := hrow.get j (.int .u8 (l[j].toNat : Int)) (by
     have : (l.map fun b => P.int .u8 (b.toNat : Int)).flatMap P.cells = l.map fun b => P.int .u8 (b.toNat : Int) := by
      exact aAV l
     rw [this, List.getElem?_map, List.getElem?_eq_getElem hj]; rfl)
    simp only [aS] at hr
    subst hr
    rw [pF]
    exact H.rel.know _ _ _ hu)
   rw [hl] at ev
   simp [execOp, ev, this]
theorem aKB {o : Oper} {t d e : TypeId} {i j : TI} {x : Operand} {l : List UInt8} {id off fz : Nat} {cs : List G} (hop : o.op = .convert t d x) (ht : ti Pg t = some i) (hd : i.desc = .slice e) (he : Pg.underlying e = some (.int .u8)) (hj : ti Pg d = some j) (hdj : j.desc = .string) (hw : dM ops σ.fr o = some true)
  (hx : gev σ.fr x = .fsl id off l.length) (ho : σ.h id = .cells cs fz) (hl : (cs.drop off).take l.length = l.map fun b => .p (.int .u8 b.toNat)) (hdst : ∀ t, o.dst = some t → t < C.N) : Eff C r ops o σ [id] (.p (.str l)) [] :=
 wL (fun cl h => by rw [hop] at h; cases h) (fun cl h => by rw [hop] at h; cases h) hw (fun id => rfl) hdst fun σ' hA a w π ρ S H => by
  have hx' : gev σ'.fr x = .fsl id off l.length := by rw [nV hA x (by rw [hop]; simp [Op.operands])]; exact hx
  have ho' : σ'.h id = .cells cs fz := (hA.h id (by simp)).trans ho
  have vx := fO H x
  rw [hx'] at vx
  simp only [aK] at vx
  obtain ⟨cap, ev, hc⟩ := vx
  have hob := H.rel.objs id
  rw [ho'] at hob
  obtain ⟨vs, et, hwv, hr, hone, _⟩ := hob
  obtain ⟨_, _, hu1, _⟩ := dA ht
  obtain ⟨_, _, hu2, _⟩ := dA hj
  rw [hd] at hu1
  rw [hdj] at hu2
  obtain ⟨dst, op, ty, pos, af, gd⟩ := o
  simp only at hop
  subst hop
  refine ⟨.string ⟨⟨l⟩⟩, ?_, by simp only [aK, aS]⟩
  have := run_convert_bytes_back (P := Pg) w t d e ⟨(ρ id).blk, off, none⟩ cap l hu1 he hu2 (fun j hj => by
   have h2 : cs[off + j]? = some (.p (.int .u8 (l[j].toNat : Int))) := by
    have := congrArg (fun z => z[j]?) hl
    simp only [List.getElem?_take, hj, if_true, List.getElem?_drop, List.getElem?_map, List.getElem?_eq_getElem hj, Option.map_some] at this
    exact this
   obtain ⟨u, hu, hr2⟩ := hr.get _ _ h2
   simp only [aK, aS] at hr2
   subst hr2
   simp only [pF, World.cell?, hwv]
   simpa using hu)
  simp [execOp, ev, this]
end
section
open Go.RowKit
variable {Pg : Program} [Kn Pg] {E : Env Pg} {C : Cx E} {r : Option Nat} {ops : Array Oper} {σ : Sg E}
theorem aDR {d : TypeId} {n : Nat} {e : TypeId} (hu : Pg.underlying d = some (.array n e)) (a : Option Addr) (len cap : Nat) (hl : n ≤ len) (w : World) : (Instr.arrayAt d (.slice a len cap)).run Pg w = .ok (.pointer a) w := by
 unfold Instr.arrayAt
 have h : ¬ len < n := by omega
 simp [underlying, hu, h]
theorem aIR {o : Oper} {d e : TypeId} {i : TI} {n : Nat} {x : Operand} {xs : List P} (hop : o.op = .sliceToArrayPointer d x) (ht : ti Pg d = some i) (hd : i.desc = .array n e) (hw : dM ops σ.fr o = some true)
  (hx : gev σ.fr x = .p (.list xs)) (hl : xs.length = n) (h0 : 0 < n) (h1 : ∀ p ∈ xs, p.one = true) (hdst : ∀ t, o.dst = some t → t < C.N) : Eff C r ops o σ [] (.ptr (xs.map .p)) [] :=
 wL (fun cl h => by rw [hop] at h; cases h) (fun cl h => by rw [hop] at h; cases h) hw (fun id => by
  show G.mens id (xs.map .p) = false
  have : ∀ l : List P, G.mens id (l.map .p) = false := fun l => by induction l with | nil => rfl | cons a l ih => simp [G.mens, G.men, ih]
  exact this xs) hdst fun σ' hA a w π ρ S H => by
  have hx' : gev σ'.fr x = .p (.list xs) := by rw [nV hA x (by rw [hop]; simp [Op.operands])]; exact hx
  have vx := fO H x
  rw [hx'] at vx
  simp only [aK, aS] at vx
  obtain ⟨ad, len, cap, ev, hln, hc, hcell⟩ := vx
  obtain ⟨_, _, hu, _⟩ := dA ht
  rw [hd] at hu
  obtain ⟨dst, op, ty, pos, af, gd⟩ := o
  simp only at hop
  subst hop
  rcases hcell with ⟨rfl, rfl⟩ | ⟨b, o, rfl, hel⟩
  ·omega
  ·refine ⟨.pointer (some ⟨b, o, none⟩), ?_, ?_⟩
   ·have := aDR hu (some ⟨b, o, none⟩) len cap (by omega) w
    simp [execOp, ev, this]
   ·simp only [aK]
    have hrow := bD.row.1 hel
    rw [wH h1] at hrow
    exact ⟨b, o, rfl, eN.of_PRow hrow⟩
theorem aIS (id : Nat) : ∀ l : List P, G.mens id (l.map .p) = false
 | [] => rfl
 | a :: l => by simp [G.mens, G.men, aIS id l]
theorem Le.ptrReg {t : Nat} {cs : List P} (hr : σ.fr t = .p (.ptr cs)) : Le C σ { σ with fr := upd σ.fr t (.ptr (cs.map .p)) } := fun a w ⟨π, ρ, S, H⟩ =>
 ⟨π, ρ, S, H.size, fun k => by
  show aK π ρ E.yv (upd σ.fr t _ k) _
  simp only [upd]
  split
  ·rename_i e; subst e
   have hv := H.vals k
   rw [hr] at hv
   simp only [aK, aS] at hv ⊢
   obtain ⟨b, o, e, hrow⟩ := hv
   exact ⟨b, o, e, eN.of_PRow hrow⟩
  ·exact H.vals k, H.defs, H.rel, H.trans, H.step, fun k i hm => by
  replace hm : (upd σ.fr t _ k).men i = true := hm
  simp only [upd] at hm
  split at hm
  ·simp only [G.men, aIS] at hm; cases hm
  ·exact H.wfr k i hm, H.wfh, H.wfd⟩
theorem aKC {c : Code} {Q : GE → Sg E → Prop} {l : List (Nat × G)} {m : List (Nat × Ob)} {A : E.α} {df : List GD} {cs : List P} {g : List G} (t : Nat) (hr : bA l t = .p (.ptr cs)) (hg : cs.map G.p = g)
  (k : gwp C r c Q (sg ((t, .ptr g) :: l) m A df)) : gwp C r c Q (sg l m A df) := by
 subst hg
 exact pH (Le.ptrReg (σ := sg l m A df) hr) k
end
section
open Go.RowKit
variable {Pg : Program} [Kn Pg] {E : Env Pg} {C : Cx E} {σ σ0 : Sg E} {a : Act} {w : World} {π : PM} {ρ : RM} {S : Nat → Prop}
section
variable {R : Nat → Rec} {lo : Nat} {X : Nat → Bool} {Jq : List (Nat × Ob)}
end
section
variable {r : Option Nat} {ops : Array Oper} {QE : Exit → Act → World → Prop} {lo q0 : Nat} {Jq : List (Nat × Ob)} {Aft : List Nat} {ids : List (List Nat × List Nat)}
end
end
section
open Go.RowKit
variable {Pg : Program} [Kn Pg] {E : Env Pg} {C : Cx E} {σ : Sg E}
end
section
open Go.RowKit
variable {Pg : Program} [Kn Pg] {E : Env Pg} {C : Cx E} {r : Option Nat} {ops : Array Oper} {Q : GE → Sg E → Prop} {l : List (Nat × G)} {m : List (Nat × Ob)} {A : E.α} {df : List GD} {σ0 σ1 : Sg E}
theorem aE5 {R : Nat → Rec} {i j : Nat} {oi oj : Oper} {di dj : List Nat × List Nat} (ho1 : ops[i]? = some oi) (ho2 : ops[j]? = some oj) (e1 : (R i).dst = oi.dst) (e2 : (R j).dst = oj.dst)
  (ha : (R i).I = di.1 ∧ (R i).ps.map (·.1) = di.2) (hb : (R j).I = dj.1 ∧ (R j).ps.map (·.1) = dj.2) (h : aAI ops.toList oi oj di dj = true) : aEN ops R i j := by
 obtain ⟨a1, a2⟩ := ha
 obtain ⟨b1, b2⟩ := hb
 simp only [aAI, Bool.and_eq_true, aBQ, List.all_eq_true] at h
 obtain ⟨⟨⟨c1, c2⟩, c3⟩, c4⟩ := h
 refine ⟨fun o ho t ht e => ?_, fun o ho t ht e => ?_, fun t ht e => ?_, fun p hp hx => ?_, fun p hp hx => ?_, fun p hp q hq e => ?_⟩
 ·rw [ho2] at ho; cases ho
  rw [← e1, e] at c1
  simp at c1
  exact c1.1 ht
 ·rw [ho1] at ho; cases ho
  rw [← e2, e] at c2
  simp at c2
  exact c2 ht
 ·rw [← e1, ht] at c1
  rw [← e2, e] at c1
  simp at c1
 ·have := c3 p.1 (by rw [← a2]; exact List.mem_map.2 ⟨p, hp, rfl⟩)
  rw [b1] at hx
  simp at this
  exact this.1 hx
 ·have := c4 p.1 (by rw [← b2]; exact List.mem_map.2 ⟨p, hp, rfl⟩)
  rw [a1] at hx
  simp at this
  exact this hx
 ·have := c3 p.1 (by rw [← a2]; exact List.mem_map.2 ⟨p, hp, rfl⟩)
  simp at this
  refine this.2 ?_
  rw [← b2, e]
  exact List.mem_map.2 ⟨q, hq, rfl⟩
theorem aDS {cl : Call} {f : FuncId} {gs gargs : List G} {J : List Nat} {L : List (Nat × Nat)} {mc mr : List (Nat × Ob)} {ks : List Nat} {ad : Option (Nat × Ob)} {t : Nat} {ty : TypeId} {pos : String} {af : Array Edge} {gd : Option (Nat × Bool)} {v : P} {cp : Prop} {K : Sg E → Prop}
  (spec : bE E f gargs (aG mc) A fun y => y = .panic v (aG mr) A) (hent : aJ Pg f) (hw : dM ops (bA l) ⟨some t, .call cl, ty, pos, af, gd⟩ = some true) (hg : cH Pg (bA l) cl = some (f, gs)) (ha : hU C.lim (aG m) L ad) (hcv : jW (rhp (aG m) J) (ad.map (·.1)) ks gs = some (cp, G.rens (cZ L) gargs)) (hc : cp)
  (hp : kT C.lim L (dH (aG m) ad) (aG mc)) (hdis : ∀ d ob, ad = some (d, ob) → d ∉ J) (hb : gG L (aG mc) (aG mr)) (ht : t < C.N)
  (k : Q (.panic v) ⟨bA l, cS (aG m) (cQ L (aG mr)), A, df⟩) : qP C r ops ⟨some t, .call cl, ty, pos, af, gd⟩ (sg l m A df) K Q := by
 refine aAN (o := ⟨some t, .call cl, ty, pos, af, gd⟩) (σ := sg l m A df) rfl hw hg hent ha hcv hc hp hdis spec (fun g h' A' e => ?_) (fun p h' A' e => ?_) (fun t' e => by cases e; exact ht)
 ·cases e
 ·cases e; exact ⟨hb, k⟩
end
section
open Go.RowKit
variable {Pg : Program} [Kn Pg] {E : Env Pg} {C : Cx E} {r : Option Nat} {ops : Array Oper} {Q : GE → Sg E → Prop} {l : List (Nat × G)} {m : List (Nat × Ob)} {A : E.α} {df : List GD} {σ0 σ σ1 : Sg E}
structure qC (C : Cx E) (r : Option Nat) (ops : Array Oper) (QE : Exit → Act → World → Prop) (lo n : Nat) (σ0 σ1 : Sg E) (ids : List (Option (List Nat × List Nat))) (σ : Sg E) : Prop where
 run : (∃ R : Nat → Rec, (∀ m x, ids[m]? = some (some x) → (R (lo + m)).I = x.1 ∧ (R (lo + m)).ps.map (·.1) = x.2) ∧ (∀ m, ids[m]? = some none → (R (lo + m)).dst = none ∧ (R (lo + m)).ps = []) ∧
  (∀ m x, ids[m]? = some (some x) → ∃ o, ops[lo + m]? = some o ∧ (R (lo + m)).dst = o.dst ∧ Eff C r ops o (cC R lo σ0 (fun _ => true) m) (R (lo + m)).I (R (lo + m)).g (R (lo + m)).ps) ∧
  cC R lo σ0 (fun _ => true) n = σ1 ∧ cC R lo σ0 (fun _ => true) ids.length = σ) → pV C r ops QE lo σ0
theorem qC.start {QE : Exit → Act → World → Prop} {lo n : Nat} {ids : List (List Nat × List Nat)} (hn : ids.length = n) (h : qC C r ops QE lo n σ0 σ1 (ids.map some ++ [none]) σ1) : eR C r ops QE lo σ0 ids σ1 := ⟨fun ⟨R, h1, h2, h3⟩ => by
 subst hn
 let R' : Nat → Rec := fun k => if k = lo + ids.length then ⟨none, .undef, [], []⟩ else R k
 have hR : ∀ k, k < ids.length → R (lo + k) = R' (lo + k) := fun k hk => by simp only [R']; rw [if_neg (by omega)]
 have hRn : R' (lo + ids.length) = ⟨none, .undef, [], []⟩ := by simp only [R', if_true]
 have hst : ∀ m, m ≤ ids.length → cC R' lo σ0 (fun _ => true) m = cC R lo σ0 (fun _ => true) m := fun m hm => (pA m fun k hk => hR k (by omega)).symm
 have hin : ∀ m x, (ids.map some ++ [none])[m]? = some (some x) → m < ids.length ∧ ids[m]? = some x := fun m x hx => by
  by_cases hm : m < ids.length
  ·rw [List.getElem?_append_left (by simpa using hm), List.getElem?_map] at hx
   cases e : ids[m]? with
   | none => rw [e] at hx; cases hx
   | some y => rw [e] at hx; cases hx; exact ⟨hm, rfl⟩
  ·rw [List.getElem?_append_right (by simp; omega)] at hx
   have : m - (ids.map some).length = 0 := by
    have := (List.getElem?_eq_some_iff.1 hx).1
    simp at this; simp; omega
   rw [this] at hx
   simp at hx
 refine h.run ⟨R', fun m x hx => ?_, fun m hx => ?_, fun m x hx => ?_, ?_, ?_⟩
 ·obtain ⟨hm, hx⟩ := hin m x hx
  rw [← hR m hm]
  exact h1 m x hx
 ·have hm : m = ids.length := by
   by_cases hm : m < ids.length
   ·rw [List.getElem?_append_left (by simpa using hm), List.getElem?_map] at hx
    rw [List.getElem?_eq_getElem hm] at hx
    simp at hx
   ·have := (List.getElem?_eq_some_iff.1 hx).1
    simp at this; omega
  rw [hm, hRn]
  exact ⟨rfl, rfl⟩
 ·obtain ⟨hm, _⟩ := hin m x hx
  rw [← hR m hm, hst m (by omega)]
  exact h2 m hm
 ·rw [hst _ (Nat.le_refl _)]; exact h3
 ·rw [List.length_append, List.length_map]
  simp only [List.length_cons, List.length_nil, Nat.zero_add, cC, if_true, hRn, hst _ (Nat.le_refl _), h3]
  rfl⟩
theorem qC.step {QE : Exit → Act → World → Prop} {lo n k : Nat} {ids : List (Option (List Nat × List Nat))} {x : Option (List Nat × List Nat)} {rc : Rec} (hk : ids.length = k) (hnk : n ≤ k) (h1 : ∀ y, x = some y → rc.I = y.1 ∧ rc.ps.map (·.1) = y.2 ∧ ∃ o, ops[lo + k]? = some o ∧ rc.dst = o.dst ∧ Eff C r ops o σ rc.I rc.g rc.ps) (h2 : x = none → rc.dst = none ∧ rc.ps = [])
  (h : qC C r ops QE lo n σ0 σ1 (ids ++ [x]) (σ.put rc.dst rc.g rc.ps)) : qC C r ops QE lo n σ0 σ1 ids σ := ⟨fun ⟨R, k1, k2, k3, k4, k5⟩ => by
 subst hk
 let R' : Nat → Rec := fun k => if k = lo + ids.length then rc else R k
 have hR : ∀ k, k < ids.length → R (lo + k) = R' (lo + k) := fun k hk => by simp only [R']; rw [if_neg (by omega)]
 have hRn : R' (lo + ids.length) = rc := by simp only [R', if_true]
 have hst : ∀ m, m ≤ ids.length → cC R' lo σ0 (fun _ => true) m = cC R lo σ0 (fun _ => true) m := fun m hm => (pA m fun k hk => hR k (by omega)).symm
 have hcase : ∀ m y, (ids ++ [x])[m]? = some y → (m < ids.length ∧ ids[m]? = some y) ∨ (m = ids.length ∧ x = y) := fun m y hy => by
  by_cases hm : m < ids.length
  ·rw [List.getElem?_append_left hm] at hy; exact .inl ⟨hm, hy⟩
  ·rw [List.getElem?_append_right (by omega)] at hy
   have : m - ids.length = 0 := by
    have := (List.getElem?_eq_some_iff.1 hy).1
    simp at this; omega
   rw [this] at hy
   simp at hy
   exact .inr ⟨by omega, hy⟩
 refine h.run ⟨R', fun m y hy => ?_, fun m hy => ?_, fun m y hy => ?_, ?_, ?_⟩
 ·rcases hcase m _ hy with ⟨hm, hz⟩ | ⟨rfl, hz⟩
  ·rw [← hR m hm]; exact k1 m y hz
  ·rw [hRn]; exact ⟨(h1 y hz).1, (h1 y hz).2.1⟩
 ·rcases hcase m _ hy with ⟨hm, hz⟩ | ⟨rfl, hz⟩
  ·rw [← hR m hm]; exact k2 m hz
  ·rw [hRn]; exact h2 hz
 ·rcases hcase m _ hy with ⟨hm, hz⟩ | ⟨rfl, hz⟩
  ·rw [← hR m hm, hst m (by omega)]; exact k3 m y hz
  ·rw [hRn, hst _ (Nat.le_refl _), k5]; exact (h1 y hz).2.2
 ·rw [hst n hnk]; exact k4
 ·simp only [List.length_append, List.length_cons, List.length_nil, cC, if_true, hRn, hst _ (Nat.le_refl _), k5]⟩
def aMu (tab : List Nat) (l : List Oper) (lo n : Nat) (ids : List (Option (List Nat × List Nat))) (vs : List Nat) : Bool :=
 decide (lo + ids.length = l.length) && (ids[n]? == some none) &&
 ((List.range ids.length).all fun j => match ids[j]? with
  | some (some dj) => ((List.range j).all fun i => match ids[i]? with
    | some (some di) => (tab.getD (lo + j) 0).testBit (lo + i) || (match l[lo + i]?, l[lo + j]? with
     | some oi, some oj => aAI l oi oj di dj
     | _, _ => false)
    | _ => true) &&
   (decide (j < n) && (tab.getD (lo + n) 0).testBit (lo + j) || (dj.2.isEmpty && (match l[lo + j]? with
    | some oj => vs.all fun v => !(oj.dst == some v)
    | none => false)))
  | _ => decide (j = n) || (tab.getD (lo + j) 0).testBit (lo + n))
theorem qC.stop {lo n : Nat} {ids : List (Option (List Nat × List Nat))} {oj : Oper} {vs : List Nat} {fr : Nat → G} (tab : List Nat) (ho : ops[lo + n]? = some oj) (hw : nZ tab ops.toList 0 = true) (hp : aMu tab ops.toList lo n ids vs = true) (hfr : ∀ t, (t ∈ vs ∧ fr t = σ1.fr t) ∨ fr t = .undef)
  (h1 : qP C r ops oj { σ1 with fr := fr } (fun _ => False) Q) : qC C r ops (cD C Q) lo n σ0 σ1 ids σ := ⟨fun ⟨R, k1, k2, k3, k4, k5⟩ => by
 simp only [aMu, Bool.and_eq_true, List.all_eq_true, List.mem_range, decide_eq_true_eq, beq_iff_eq, Array.length_toList] at hp
 obtain ⟨⟨hsize, hnn⟩, hp⟩ := hp
 have hB := aAA.of hw
 have hnl : n < ids.length := (List.getElem?_eq_some_iff.1 hnn).1
 let len := ids.length
 have hlen : lo + len = ops.size := hsize
 have hor : ∀ q, q < len → ids[q]? = some none ∨ ∃ x, ids[q]? = some (some x) := fun q hq => by
  rw [List.getElem?_eq_getElem hq]
  cases ids[q] with
  | none => exact .inl rfl
  | some x => exact .inr ⟨x, rfl⟩
 have hdead : ∀ q, ids[q]? = some none → q ≠ n → (tab.getD (lo + q) 0).testBit (lo + n) = true := fun q hq hqn => by
  have := hp q (List.getElem?_eq_some_iff.1 hq).1
  rw [hq] at this
  simp only [Bool.or_eq_true, decide_eq_true_eq] at this
  rcases this with h | h
  ·exact absurd h hqn
  ·exact h
 have hforce : ∀ q x, ids[q]? = some (some x) → (q < n ∧ (tab.getD (lo + n) 0).testBit (lo + q) = true) ∨ ((R (lo + q)).ps = [] ∧ ∀ v ∈ vs, (R (lo + q)).dst ≠ some v) := fun q x hq => by
  have := hp q (List.getElem?_eq_some_iff.1 hq).1
  rw [hq] at this
  simp only [Bool.and_eq_true, Bool.or_eq_true, decide_eq_true_eq] at this
  rcases this.2 with h | ⟨h2, h3⟩
  ·exact .inl h
  ·obtain ⟨o, ho', e1, _⟩ := k3 q x hq
   have ho2 : ops.toList[lo + q]? = some o := by simpa using ho'
   rw [ho2] at h3
   refine .inr ⟨?_, fun v hv e => ?_⟩
   ·have h4 := (k1 q x hq).2
    rw [List.isEmpty_iff] at h2
    rw [h2] at h4
    exact List.map_eq_nil_iff.1 h4
   ·have := List.all_eq_true.1 h3 v hv
    rw [← e1, e] at this
    simp at this
 have hfree : ∀ i j x y, i < j → ids[i]? = some (some x) → ids[j]? = some (some y) → Bef ops.size tab (lo + i) (lo + j) ∨ aEN ops R (lo + i) (lo + j) := fun i j x y hij hi hj => by
  obtain ⟨oi, ho1, e1, _⟩ := k3 i x hi
  obtain ⟨oj, ho2, e2, _⟩ := k3 j y hj
  have ho1' : ops.toList[lo + i]? = some oi := by simpa using ho1
  have ho2' : ops.toList[lo + j]? = some oj := by simpa using ho2
  have hjl : lo + j < ops.size := (Array.getElem?_eq_some_iff.1 ho2).1
  have := hp j (List.getElem?_eq_some_iff.1 hj).1
  rw [hj] at this
  simp only [Bool.and_eq_true, List.all_eq_true, List.mem_range] at this
  have := this.1 i hij
  rw [hi, ho1', ho2'] at this
  simp only [Bool.or_eq_true] at this
  rcases this with h | h
  ·exact .inl ⟨hjl, h⟩
  ·exact .inr (aE5 ho1 ho2 e1 e2 (k1 i x hi) (k1 j y hj) h)
 have main : ∀ (c : Nat) (listed : Array Bool) (a : Act) (w : World), listed.size = ops.size → cnt (lst listed) lo len = c → (∀ k, k < lo → lst listed k = true) → lst listed (lo + n) = false →
   (∀ j o, ops[j]? = some o → lo ≤ j → j < ops.size → lst listed j = true → ∀ e ∈ o.after, Region.binds .any e = true → lst listed e.on = true) →
   Holds C (cC R lo σ0 (lst listed) len) a w → wpAnyIn (MF Pg r) 0 Pg .any ops (cD C Q) c listed a w := by
  intro c
  induction c with
  | zero =>
   intro listed a w hsz hc hlow hjp hdc H
   have := vX hc n hnl
   rw [hjp] at this; cases this
  | succ c ih =>
   intro listed a w hsz hc hlow hjp hdc H
   have hB' : ∀ j, (∀ o, ops[j]? = some o → ∀ e ∈ o.after, Region.binds .any e = true → lst listed e.on = true) → ∀ i, lo ≤ i → Bef ops.size tab i j → lst listed i = true := by
    intro j
    induction j using Nat.strongRecOn with
    | _ j ihj =>
     intro hj i hi hb
     obtain ⟨o, ho, e, he, hbe, hcase⟩ := hB.up i j hb
     have hon := hj o ho e he hbe
     rcases hcase with rfl | hb'
     ·exact hon
     ·have hlt := hB.low j o ho e he hbe
      refine ihj e.on hlt (fun o' ho' e' he' hbe' => ?_) i hi hb'
      by_cases h1 : e.on < lo
      ·have := hB.low _ _ ho' _ he' hbe'
       exact hlow _ (by omega)
      ·have hlt2 : e.on < ops.size := (Array.getElem?_eq_some_iff.1 ho').1
       exact hdc _ _ ho' (by omega) hlt2 hon _ he' hbe'
   have hlive : ∀ q, q < len → lst listed (lo + q) = true → ∃ x, ids[q]? = some (some x) := fun q hq hx => by
    rcases hor q hq with h | h
    ·by_cases hqn : q = n
     ·subst hqn; rw [hjp] at hx; cases hx
     ·have := hB' (lo + q) (fun o ho e he hbe => hdc _ o ho (by omega) (by omega) hx e he hbe) (lo + n) (by omega) ⟨by omega, hdead q h hqn⟩
      rw [hjp] at this; cases this
    ·exact h
   obtain ⟨q0, hq0, hx0, hfirst⟩ := xL (X := lst listed) (lo := lo) (m := len) (by omega)
   have hne : Region.ready .any ops listed ≠ [] := by
    intro hnil
    have hmem : lo + q0 ∈ Region.ready .any ops listed := by
     obtain ⟨o, ho⟩ : ∃ o, ops[lo + q0]? = some o := ⟨ops[lo + q0], by rw [Array.getElem?_eq_getElem]⟩
     refine mem_ready.2 ⟨hx0, o, ho, fun e he hbe => ?_⟩
     have hlt := hB.low _ _ ho e he hbe
     have hl : lst listed e.on = true := by
      by_cases h1 : e.on < lo
      ·exact hlow _ h1
      ·have := hfirst (e.on - lo) (by omega)
       rwa [show lo + (e.on - lo) = e.on by omega] at this
     have hsz' : e.on < listed.size := by omega
     simp only [lst, Array.getD_eq_getD_getElem?, Array.getElem?_eq_getElem hsz', Option.getD_some] at hl ⊢
     exact hl
    rw [hnil] at hmem; cases hmem
   refine ⟨fun h0 => absurd h0 hne, fun i hi => ?_⟩
   obtain ⟨hun, o, ho', hall⟩ := mem_ready.1 hi
   have hilt : i < ops.size := (Array.getElem?_eq_some_iff.1 ho').1
   have hallt : ∀ e ∈ o.after, Region.binds .any e = true → lst listed e.on = true := fun e he hbe => by
    have h1 := hall e he hbe
    have hlt := hB.low _ _ ho' e he hbe
    have hsz' : e.on < listed.size := by omega
    simp only [lst, Array.getD_eq_getD_getElem?, Array.getElem?_eq_getElem hsz', Option.getD_some] at h1 ⊢
    exact h1
   have hallt' : ∀ o', ops[i]? = some o' → ∀ e ∈ o'.after, Region.binds .any e = true → lst listed e.on = true := fun o' h' => by rw [ho'] at h'; cases h'; exact hallt
   have hilo : lo ≤ i := by
    apply Nat.le_of_not_lt; intro h1
    rw [show listed.getD i true = lst listed i from rfl, hlow i h1] at hun; cases hun
   obtain ⟨q, rfl⟩ : ∃ q, i = lo + q := ⟨i - lo, by omega⟩
   have hqlen : q < len := by omega
   have hXq : lst listed (lo + q) = false := hun
   by_cases hqn : q = n
   ·
    rw [hqn] at ho' hallt' ⊢
    rw [ho] at ho'; cases ho'
    have hbef : ∀ k, k < n → (tab.getD (lo + n) 0).testBit (lo + k) = true → lst listed (lo + k) = true := fun k hk hb => hB' (lo + n) hallt' (lo + k) (by omega) ⟨by omega, hb⟩
    have hout : ∀ k, k < n → lst listed (lo + k) = false → (R (lo + k)).ps = [] ∧ ∀ v ∈ vs, (R (lo + k)).dst ≠ some v := fun k hk hx => by
     rcases hor k (by omega) with h | ⟨x, h⟩
     ·obtain ⟨a1, a2⟩ := k2 k h
      exact ⟨a2, fun v _ e => by rw [a1] at e; cases e⟩
     ·rcases hforce k x h with ⟨_, h3⟩ | h3
      ·rw [hbef k hk h3] at hx; cases hx
      ·exact h3
    have hin : ∀ k, n ≤ k → k < len → lst listed (lo + k) = true → (R (lo + k)).ps = [] ∧ ∀ v ∈ vs, (R (lo + k)).dst ≠ some v := fun k hk hkl hx => by
     obtain ⟨x, h⟩ := hlive k hkl hx
     rcases hforce k x h with ⟨h3, _⟩ | h3
     ·omega
     ·exact h3
    have hst : ∀ k, k ≤ len → (cC R lo σ0 (lst listed) k).h = (cC R lo σ0 (fun _ => true) (min k n)).h ∧ ∀ v ∈ vs, (cC R lo σ0 (lst listed) k).fr v = (cC R lo σ0 (fun _ => true) (min k n)).fr v := fun k => by
     induction k with
     | zero => intro _; simp [cC]
     | succ k ihk =>
      intro hk
      obtain ⟨i1, i2⟩ := ihk (by omega)
      by_cases hkn : k < n
      ·have e1 : min (k + 1) n = k + 1 := by omega
       have e2 : min k n = k := by omega
       rw [e2] at i1 i2
       rw [e1]
       simp only [cC, if_true]
       cases hx : lst listed (lo + k) with
       | true =>
        rw [if_pos rfl]
        refine ⟨?_, fun v hv => ?_⟩
        ·show cS _ _ = cS _ _
         rw [i1]
        ·exact aBL (i2 v hv)
       | false =>
        rw [if_neg (by simp)]
        obtain ⟨o1, o2⟩ := hout k hkn hx
        refine ⟨?_, fun v hv => ?_⟩
        ·show _ = cS _ _
         rw [i1, o1]
         rfl
        ·rw [i2 v hv]
         exact (vW (o2 v hv)).symm
      ·have e1 : min (k + 1) n = min k n := by omega
       rw [e1]
       simp only [cC]
       cases hx : lst listed (lo + k) with
       | true =>
        rw [if_pos rfl]
        obtain ⟨o1, o2⟩ := hin k (by omega) (by omega) hx
        refine ⟨?_, fun v hv => ?_⟩
        ·show cS _ _ = _
         rw [o1, ← i1]
         rfl
        ·rw [← i2 v hv]
         exact vW (o2 v hv)
       | false => rw [if_neg (by simp)]; exact ⟨i1, i2⟩
    obtain ⟨s1, s2⟩ := hst len (Nat.le_refl _)
    rw [show min len n = n by omega, k4] at s1 s2
    obtain ⟨s3, s4⟩ := jM (R := R) (lo := lo) (X := lst listed) (σ := σ0) len
    obtain ⟨t3, t4⟩ := jM (R := R) (lo := lo) (X := fun _ => true) (σ := σ0) n
    rw [k4] at t3 t4
    have hle : Le C (cC R lo σ0 (lst listed) len) { σ1 with fr := fr } := by
     have := Le.regs (C := C) (σ := cC R lo σ0 (lst listed) len) (fr := fr) (fun t => by
      rcases hfr t with ⟨hv, e⟩ | e
      ·exact .inl (by rw [e, s2 t hv])
      ·exact .inr (.inl e))
     have e : ({ cC R lo σ0 (lst listed) len with fr := fr } : Sg E) = { σ1 with fr := fr } := by
      show (⟨fr, (cC R lo σ0 (lst listed) len).h, (cC R lo σ0 (lst listed) len).A, (cC R lo σ0 (lst listed) len).df⟩ : Sg E) = ⟨fr, σ1.h, σ1.A, σ1.df⟩
      rw [s1, s3, s4, t3, t4]
     rwa [e] at this
    unfold wpOpIn
    rw [ho]
    exact h1 a w (hle a w H) _ fun _ _ _ hk _ => hk.elim
   ·have hql : ∃ x, ids[q]? = some (some x) := by
     rcases hor q hqlen with h | h
     ·have := hB' (lo + q) hallt' (lo + n) (by omega) ⟨by omega, hdead q h hqn⟩
      rw [hjp] at this; cases this
     ·exact h
    obtain ⟨x, hx⟩ := hql
    have fr1 : ∀ m, m < q → lst listed (lo + m) = false → (∀ oj, ops[lo + q]? = some oj → ∀ t ∈ oj.looksAt ops, (R (lo + m)).dst ≠ some t) ∧ (∀ p ∈ (R (lo + m)).ps, p.1 ∉ (R (lo + q)).I) := fun m hm hxm => by
     rcases hor m (by omega) with h | ⟨y, h⟩
     ·obtain ⟨a1, a2⟩ := k2 m h
      rw [a1, a2]
      exact ⟨fun _ _ _ _ => by simp, fun p hp => by simp at hp⟩
     ·rcases hfree m q y x hm h hx with hb | hf
      ·have := hB' (lo + q) hallt' (lo + m) (by omega) hb
       rw [hxm] at this; cases this
      ·exact ⟨hf.r1, hf.o1⟩
    have fr2 : ∀ k, q < k → k < len → lst listed (lo + k) = true → aEN ops R (lo + q) (lo + k) := fun k hk hkl hxk => by
     obtain ⟨y, hy⟩ := hlive k hkl hxk
     rcases hfree q k x y hk hx hy with hb | hf
     ·have := hB' (lo + k) (fun o' ho' => hdc _ o' ho' (by omega) (by omega) hxk) (lo + q) (by omega) hb
      rw [hXq] at this; cases this
     ·exact hf
    obtain ⟨o', ho2, hdst, heff⟩ := k3 q x hx
    rw [ho'] at ho2; cases ho2
    have hmin : min len q = q := by omega
    have hag : aBJ ops o (R (lo + q)).I (cC R lo σ0 (fun _ => true) q) (cC R lo σ0 (lst listed) len) := by
     refine ⟨by rw [(jM len).1, (jM q).1], by rw [(jM len).2, (jM q).2], fun t ht => ?_, fun id hid => ?_⟩
     ·have := aAz (R := R) (σ := σ0) (t := t) hXq (fun m hm hx => (fr1 m hm hx).1 o ho' t ht) len (fun k hk hkl hx => (fr2 k hk hkl hx).r2 o ho' t ht)
      rwa [hmin] at this
     ·have := aCs (R := R) (σ := σ0) (id := id) hXq (fun m hm hx p hp e => (fr1 m hm hx).2 p hp (e ▸ hid)) len (fun k hk hkl hx p hp e => (fr2 k hk hkl hx).o2 p hp (e ▸ hid))
      rwa [hmin] at this
    have hw := heff _ hag a w H (wpAnyIn (MF Pg r) 0 Pg .any ops (cD C Q) c (listed.setIfInBounds (lo + q) true)) (cD C Q) fun a' w' H' => ?_
    ·unfold wpOpIn
     rw [ho']
     exact hw
    ·have hsz2 : lo + q < listed.size := by omega
     have hl' : ∀ k, lst (listed.setIfInBounds (lo + q) true) k = if k = lo + q then true else lst listed k := fun k => aAB hsz2
     have hX' : lst (listed.setIfInBounds (lo + q) true) (lo + q) = true := by rw [hl']; simp
     have hsame : ∀ m, m ≠ q → lst (listed.setIfInBounds (lo + q) true) (lo + m) = lst listed (lo + m) := fun m hm => by
      rw [hl', if_neg (by omega)]
     refine ih _ a' w' (by simpa using hsz) ?_ (fun k hk => ?_) ?_ (fun j oj hoj h1 h2 hx e he hbe => ?_) ?_
     ·have := (aCt hXq hX' hsame len).2 hqlen
      omega
     ·rw [hl', if_neg (by omega)]; exact hlow k hk
     ·rw [hl', if_neg (by omega)]; exact hjp
     ·rw [hl']
      split
      ·rfl
      ·rw [hl'] at hx
       split at hx
       ·rename_i e1
        subst e1
        rw [ho'] at hoj; cases hoj
        exact hallt e he hbe
       ·exact hdc j oj hoj h1 h2 hx e he hbe
     ·rw [(vE (ops := ops) (R := R) (σ := σ0) hXq hX' hsame len fr2).2 hqlen, hdst]
      exact H'
 refine ⟨fun listed a w ⟨hsz, hl⟩ H => ?_⟩
 have hun : ∀ m, m ≤ len → cnt (lst listed) lo m = m ∧ cC R lo σ0 (lst listed) m = σ0 := fun m => by
  induction m with
  | zero => intro _; exact ⟨rfl, rfl⟩
  | succ m ih =>
   intro hm
   obtain ⟨i1, i2⟩ := ih (by omega)
   have hx : lst listed (lo + m) = false := by rw [hl _ (by omega)]; simp
   simp only [cnt, cC, hx, i1, i2, Bool.false_eq_true, if_false, and_self]
 have hsl : ops.size - lo = len := by omega
 rw [hsl]
 exact main len listed a w hsz (hun len (Nat.le_refl _)).1 (fun k hk => by rw [hl k (by omega)]; simp [hk]) (by rw [hl _ (by omega)]; simp)
  (fun j o ho h1 h2 hx => by rw [hl j (by omega)] at hx; simp at hx; omega) (by rw [(hun len (Nat.le_refl _)).2]; exact H)⟩
theorem aLx {l : List (Nat × G)} : ∀ (vs : List Nat) (t : Nat), (t ∈ vs ∧ bA (vs.map fun v => (v, bA l v)) t = bA l t) ∨ bA (vs.map fun v => (v, bA l v)) t = .undef
 | [], t => .inr rfl
 | v :: vs, t => by
  rw [List.map_cons, aT]
  split
  ·rename_i e; subst e; exact .inl ⟨List.mem_cons_self .., rfl⟩
  ·rcases aLx vs t with ⟨h1, h2⟩ | h
   ·exact .inl ⟨List.mem_cons_of_mem _ h1, h2⟩
   ·exact .inr h
end
section
open Go.RowKit
inductive S where
 | bool | int (k : IntKind) | str
 | list (es : List S) (agg : Bool)
def aIT (sh : TypeId → Option (List S)) (P : Program) : List Field → Nat → Option (List S)
 | [], _ => some []
 | f :: fs, o => (sh f.type).bind fun a => if f.offset = o ∧ P.cellsOf f.type = a.length then (aIT sh P fs (o + a.length)).map (a ++ ·) else none
def shp (P : Program) : Nat → Bool → TypeId → Option (List S)
 | 0, _, _ => none
 | n + 1, deep, t => match P.underlying t with
  | some .bool => some [.bool]
  | some (.int k) => some [.int k]
  | some .string => some [.str]
  | some (.slice e) => if deep then none else (shp P n true e).bind fun es => if P.cellsOf e = es.length then (match P.underlying e with
   | some (.struct _) => some [.list es true]
   | some (.array _ _) => some [.list es true]
   | _ => if es.length = 1 then some [.list es false] else none) else none
  | some (.struct fs) => aIT (shp P n deep) P fs.toList 0
  | some (.array m e) => (shp P n deep e).bind fun es => if P.cellsOf e = es.length then some (List.replicate m es).flatten else none
  | _ => none
mutual
def aCN : S → P → Prop
 | .bool, x => ∃ b, x = .bool b
 | .int k, x => ∃ n, x = .int k n ∧ (Lit.int k n).wf = true
 | .str, x => ∃ s, x = .str s ∧ s.length ≤ maxLen
 | .list es agg, x => ∃ xs, x = .list xs ∧ xs.length ≤ maxLen ∧ ∀ y ∈ xs, ∃ cs, eH es cs ∧ (agg = true → y = .agg cs) ∧ (agg = false → cs = [y])
def eH : List S → List P → Prop
 | [], xs => xs = []
 | e :: es, xs => ∃ y ys, xs = y :: ys ∧ aCN e y ∧ eH es ys
end
theorem aCN.one {s : S} {x : P} (h : aCN s x) : x.one = true := by
 cases s <;> simp only [aCN] at h
 ·obtain ⟨_, rfl⟩ := h; rfl
 ·obtain ⟨_, rfl, _⟩ := h; rfl
 ·obtain ⟨_, rfl, _⟩ := h; rfl
 ·obtain ⟨_, rfl, _⟩ := h; rfl
theorem eH.length : ∀ {ss : List S} {xs : List P}, eH ss xs → xs.length = ss.length
 | [], xs, h => by simp only [eH] at h; subst h; rfl
 | s :: ss, xs, h => by
  simp only [eH] at h
  obtain ⟨y, ys, rfl, _, k⟩ := h
  simp [eH.length k]
theorem eH.one : ∀ {ss : List S} {xs : List P}, eH ss xs → ∀ x ∈ xs, x.one = true
 | [], xs, h, x, hx => by simp only [eH] at h; subst h; simp at hx
 | s :: ss, xs, h, x, hx => by
  simp only [eH] at h
  obtain ⟨y, ys, rfl, k1, k2⟩ := h
  rcases List.mem_cons.1 hx with rfl | hx
  ·exact k1.one
  ·exact eH.one k2 x hx
theorem eH.append : ∀ {ss ts : List S} {xs ys : List P}, eH ss xs → eH ts ys → eH (ss ++ ts) (xs ++ ys)
 | [], ts, xs, ys, h, k => by simp only [eH] at h; subst h; simpa using k
 | s :: ss, ts, xs, ys, h, k => by
  simp only [eH] at h
  obtain ⟨y, zs, rfl, k1, k2⟩ := h
  simp only [List.cons_append, eH]
  exact ⟨y, _, rfl, k1, eH.append k2 k⟩
theorem aU.append' {π : PM} {xs ys : List P} {us vs : List Value} (h : aU π xs us) (k : aU π ys vs) : aU π (xs ++ ys) (us ++ vs) := by
 induction xs generalizing us with
 | nil => simp only [aU] at h; subst h; simpa using k
 | cons x xs ih =>
  simp only [aU] at h
  obtain ⟨v, ws, rfl, h1, h2⟩ := h
  simp only [List.cons_append, aU]
  exact ⟨v, _, rfl, h1, ih h2⟩
def aB2 (cs : List Value) : Prop := ∀ a len cap, Value.slice (some a) len cap ∈ cs → a.spot = none
variable {H : Type} {enc : TypeId × Value → H} {Pg : Program} {w : World} {base : Nat} {spare : Nat → Bool} {held : Bool}
theorem aIU {α β : Type} {f : α → Option β} : ∀ {l : List α} {r : List β}, l.mapM f = some r → r.length = l.length ∧ ∀ (i : Nat) x, l[i]? = some x → f x = r[i]?
 | l, r, h => ⟨mapM_some_length h, fun i x hx => mapM_some_get h i x hx⟩
theorem aDT (b o j : Nat) : (⟨b, o, none⟩ : Addr).add j = ⟨b, o + j, none⟩ := by simp [Addr.add]
theorem aMv {a : Addr} {n : Nat} {cs : List Value} {ps : List P} (hs : a.spot = none) (h : w.cells? base a n = some cs) (hr : aU (eP w) ps cs) (h1 : ∀ x ∈ ps, x.one = true) : dJ (eP w) a.block a.off ps := by
 obtain ⟨_, hl, hc⟩ := World.cells?_some h
 refine dJ.mk fun j c hj => ?_
 obtain ⟨u, hu, hk⟩ := hr.get j c hj
 refine ⟨u, ?_, hk, h1 c (List.mem_of_getElem? hj)⟩
 have hjn : j < n := by
  have := (List.getElem?_eq_some_iff.1 hu).1
  omega
 have := hc j hjn
 rw [hu] at this
 rw [← this]
 obtain ⟨b, o, s⟩ := a
 simp only at hs; subst hs
 simp only [eP, aDT]
theorem bD.of_rows {π : PM} {b c : Nat} : ∀ {xs : List P} {o : Nat}, (∀ (i : Nat) x, xs[i]? = some x → x.cells.length = c ∧ dJ π b (o + i * c) x.cells) → bD π b o xs := by
 intro xs
 induction xs with
 | nil => intro o _; simp only [bD]
 | cons x xs ih =>
  intro o h
  have h0 := h 0 x (by simp)
  rw [bD.row, List.flatMap_cons, dJ.append, ← bD.row]
  refine ⟨by simpa using h0.2, ?_⟩
  rw [h0.1]
  refine ih fun i y hy => ?_
  have := h (i + 1) y (by simpa using hy)
  refine ⟨this.1, ?_⟩
  have e : o + c + i * c = o + (i + 1) * c := by rw [Nat.add_mul]; omega
  rw [e]; exact this.2
theorem aDU {α : Type} {n : Nat} {R : Nat → α → Prop} (h : ∀ i, i < n → ∃ x, R i x) : ∃ xs : List α, xs.length = n ∧ ∀ (i : Nat) x, xs[i]? = some x → R i x := by
 induction n with
 | zero => exact ⟨[], rfl, fun i x hx => by simp at hx⟩
 | succ n ih =>
  obtain ⟨xs, hl, hx⟩ := ih fun i hi => h i (by omega)
  obtain ⟨x, hr⟩ := h n (by omega)
  refine ⟨xs ++ [x], by simp [hl], fun i y hy => ?_⟩
  by_cases hi : i < n
  ·rw [List.getElem?_append_left (by omega)] at hy; exact hx i y hy
  ·have hi' : i = n := by
    have := (List.getElem?_eq_some_iff.1 hy).1
    simp [hl] at this; omega
   subst hi'
   rw [List.getElem?_append_right (by omega), hl] at hy
   simp at hy; subst hy; exact hr
theorem aB2.sub {cs ds : List Value} (h : aB2 cs) (hs : ∀ v ∈ ds, v ∈ cs) : aB2 ds := fun a l c k => h a l c (hs _ k)
theorem aAW {sh : TypeId → Option (List S)} {R : TypeId → List Value → Prop} {cs : List Value}
  (ih : ∀ t ss ds, sh t = some ss → Pg.cellsOf t = ss.length → R t ds → (∀ v ∈ ds, v ∈ cs) → ∃ ps, aU (eP w) ps ds ∧ eH ss ps) :
  ∀ (fs : List Field) (o : Nat) (ss : List S), aIT sh Pg fs o = some ss → o + ss.length = cs.length → (∀ f ∈ fs, R f.type ((cs.drop f.offset).take (Pg.cellsOf f.type))) →
   ∃ ps, aU (eP w) ps (cs.drop o) ∧ eH ss ps
 | [], o, ss, h, hl, _ => by
  simp only [aIT, Option.some.injEq] at h; subst h
  simp at hl; subst hl
  exact ⟨[], by simp [aU], by simp [eH]⟩
 | f :: fs, o, ss, h, hl, hr => by
  simp only [aIT, Option.bind_eq_some_iff] at h
  obtain ⟨a, ha, h⟩ := h
  split at h
  ·rename_i hc
   obtain ⟨rfl, hc⟩ := hc
   simp only [Option.map_eq_some_iff] at h
   obtain ⟨b, hb, rfl⟩ := h
   obtain ⟨p1, q1, g1⟩ := ih f.type a _ ha hc (hr f (by simp)) (fun v hv => List.mem_of_mem_drop (List.mem_of_mem_take hv))
   obtain ⟨p2, q2, g2⟩ := aAW ih fs _ b hb (by simp at hl; omega) (fun g hg => hr g (by simp [hg]))
   refine ⟨p1 ++ p2, ?_, g1.append g2⟩
   have := q1.append' q2
   rw [hc] at this
   rw [← List.drop_drop] at this
   rwa [List.take_append_drop] at this
  ·cases h
theorem aE6 {es : List S} {cs : List Value} {c : Nat} (hc : c = es.length) :
  ∀ (m o : Nat), (∀ i, o ≤ i → i < o + m → ∃ ps, aU (eP w) ps ((cs.drop (i * c)).take c) ∧ eH es ps) →
   ∃ ps, aU (eP w) ps ((cs.drop (o * c)).take (m * c)) ∧ eH (List.replicate m es).flatten ps := by
 intro m
 induction m with
 | zero => intro o _; exact ⟨[], by simp [aU], by simp [eH]⟩
 | succ m ih =>
  intro o h
  obtain ⟨p1, q1, g1⟩ := h o (by omega) (by omega)
  obtain ⟨p2, q2, g2⟩ := ih (o + 1) fun i h1 h2 => h i (by omega) (by omega)
  refine ⟨p1 ++ p2, ?_, ?_⟩
  ·have := q1.append' q2
   have e : (cs.drop (o * c)).take ((m + 1) * c) = (cs.drop (o * c)).take c ++ (cs.drop ((o + 1) * c)).take (m * c) := by
    rw [Nat.add_mul, Nat.one_mul, Nat.add_comm (m * c), List.take_add, List.drop_drop, Nat.add_mul, Nat.one_mul]
   rw [e]; exact this
  ·rw [List.replicate_succ, List.flatten_cons]; exact g1.append g2
theorem aIV {k : Nat} {t e : TypeId} {m : Nat} {cs : List Value} {x : DataW H × List MemPlace} (ht : Pg.underlying t = some (.array k e)) (h : DataW.trod enc Pg w base spare held m t cs = some x) :
  ∃ n, cs.length = Pg.cellsOf t ∧ ∀ i, i < k → ∃ y, DataW.trod enc Pg w base spare held n e ((cs.drop (i * Pg.cellsOf e)).take (Pg.cellsOf e)) = some y := by
 cases m with
 | zero => simp [DataW.trod] at h
 | succ n =>
  unfold DataW.trod at h
  rw [ht] at h
  split at h <;> simp_all
  obtain ⟨hl, xs, hxs, _⟩ := h
  refine ⟨n, fun i hi => ?_⟩
  obtain ⟨h1, h2⟩ := aIU hxs
  have := h2 i i (by simp [hi])
  simp at h1
  exact ⟨_, _, by rw [this]; exact List.getElem?_eq_getElem (by omega)⟩
theorem aB3 : ∀ (n : Nat) (deep : Bool) (t : TypeId) (ss : List S), shp Pg n deep t = some ss →
  ∀ (m : Nat) (cs : List Value) (x : DataW H × List MemPlace), DataW.trod enc Pg w base spare held m t cs = some x → (deep = false → aB2 cs) → Pg.cellsOf t = ss.length →
   ∃ ps, aU (eP w) ps cs ∧ eH ss ps := by
 intro n
 induction n with
 | zero => intro _ _ _ h; simp [shp] at h
 | succ n ih =>
  intro deep t ss h m cs x hx hsp hct
  unfold shp at h
  split at h
  ·rename_i ht
   simp only [Option.some.injEq] at h; subst h
   obtain ⟨b, rfl, _⟩ := DataW.trod_bool ht hx
   exact ⟨[.bool b], by simp [aU, aS], by simp [eH, aCN]⟩
  ·rename_i k ht
   simp only [Option.some.injEq] at h; subst h
   obtain ⟨b, rfl, _, hw⟩ := DataW.trod_int ht hx
   exact ⟨[.int k b], by simp [aU, aS], by simp [eH, aCN, hw]⟩
  ·rename_i ht
   simp only [Option.some.injEq] at h; subst h
   obtain ⟨s, rfl, _, hw⟩ := DataW.trod_string ht hx
   exact ⟨[.str s.data.toList], by simp [aU, aS], by simp [eH, aCN]; exact hw⟩
  ·rename_i e ht
   split at h
   ·cases h
   ·rename_i hdeep
    simp only [Option.bind_eq_some_iff] at h
    obtain ⟨es, hes, h⟩ := h
    split at h
    ·rename_i hce
     have agg : ∃ g : Bool, ss = [.list es g] ∧ (g = false → es.length = 1) := by
      split at h
      ·simp only [Option.some.injEq] at h; subst h; exact ⟨true, rfl, fun k => by cases k⟩
      ·simp only [Option.some.injEq] at h; subst h; exact ⟨true, rfl, fun k => by cases k⟩
      ·split at h
       ·rename_i h1
        simp only [Option.some.injEq] at h; subst h; exact ⟨false, rfl, fun _ => h1⟩
       ·cases h
     obtain ⟨g, rfl, hg⟩ := agg
     clear h
     rcases DataW.trod_slice ht hx with ⟨rfl, _⟩ | ⟨a, len, cap, elems, rest, n', _, rfl, _, hb, hl, hm, hlen, hel, _, _⟩
     ·refine ⟨[.list []], ?_, by simp [eH, aCN]⟩
      simp only [aU, aS]
      exact ⟨_, _, rfl, ⟨none, 0, 0, rfl, rfl, Nat.le_refl _, .inl ⟨rfl, rfl⟩⟩, rfl⟩
     ·have hspot : a.spot = none := hsp (by simpa using hdeep) a len cap (by simp)
      have each : ∀ i, i < len → ∃ y : P, ∃ cs, dJ (eP w) a.block (a.off + i * es.length) cs ∧ cs.length = es.length ∧ y.cells = cs ∧ eH es cs ∧ (g = true → y = .agg cs) ∧ (g = false → cs = [y]) := by
       intro i hi
       have hh := hel i hi
       rw [List.getElem?_eq_getElem (by omega)] at hh
       simp only [Option.bind_eq_some_iff] at hh
       obtain ⟨ds, hds, hy⟩ := hh
       obtain ⟨ps, q1, q2⟩ := ih true e es hes _ _ _ hy (fun k => by cases k) hce
       have hrow' : dJ (eP w) a.block (a.off + i * es.length) ps := by
        obtain ⟨b, o, s⟩ := a
        simp only at hspot; subst hspot
        rw [aDT] at hds
        have := aMv rfl hds q1 q2.one
        rwa [hce] at this
       cases g with
       | true => exact ⟨.agg ps, ps, hrow', q2.length, rfl, q2, fun _ => rfl, (fun k => by cases k)⟩
       | false =>
        have := hg rfl
        have hl1 := q2.length
        rw [this] at hl1
        obtain ⟨y, rfl⟩ := List.length_eq_one_iff.1 hl1
        refine ⟨y, [y], hrow', by simp [this], ?_, q2, (fun k => by cases k), fun _ => rfl⟩
        have := q2.one y (by simp)
        cases y <;> first | rfl | simp [P.one] at this
      obtain ⟨xs, hxl, hxs⟩ := aDU each
      refine ⟨[.list xs], ?_, ?_⟩
      ·obtain ⟨b, o, s⟩ := a
       simp only at hspot; subst hspot
       simp only [aU, aS]
       refine ⟨_, _, rfl, ⟨_, len, cap, rfl, by omega, hl, .inr ⟨b, o, rfl, ?_⟩⟩, rfl⟩
       refine bD.of_rows (c := es.length) fun i x hi => ?_
       obtain ⟨cs, k1, k2, k3, _⟩ := hxs i x hi
       rw [k3]; exact ⟨k2, k1⟩
      ·simp only [eH, aCN]
       refine ⟨_, _, rfl, ⟨xs, rfl, by omega, fun y hy => ?_⟩, rfl⟩
       obtain ⟨i, hi⟩ := List.getElem?_of_mem hy
       obtain ⟨cs, _, _, _, k4, k5, k6⟩ := hxs i y hi
       exact ⟨cs, k4, k5, k6⟩
    ·cases h
  ·rename_i fs ht
   obtain ⟨xs, n', _, _, hl, hxl, hf⟩ := DataW.trod_struct ht hx
   have := aAW (w := w) (Pg := Pg) (sh := shp Pg n deep) (R := fun t ds => ∃ y, DataW.trod enc Pg w base spare held n' t ds = some y) (cs := cs) ?_ fs.toList 0 ss h (by omega) ?_
   ·simpa using this
   ·rintro t' ss' ds' hs' hc' ⟨y, hy⟩ hsub
    exact ih deep t' ss' hs' _ _ _ hy (fun k => (hsp k).sub hsub) hc'
   ·intro f hf'
    obtain ⟨i, hi⟩ := List.getElem?_of_mem hf'
    have hi' : fs[i]? = some f := by simpa using hi
    have := hf i f hi'
    have hlt : i < xs.length := by
     rw [hxl]
     exact (Array.getElem?_eq_some_iff.1 hi').1
    exact ⟨_, by rw [this]; exact List.getElem?_eq_getElem hlt⟩
  ·rename_i k e ht
   simp only [Option.bind_eq_some_iff] at h
   obtain ⟨es, hes, h⟩ := h
   split at h
   ·rename_i hce
    simp only [Option.some.injEq] at h; subst h
    obtain ⟨n', hl, hf⟩ := aIV ht hx
    have hlen : cs.length = k * es.length := by
     rw [hl, hct]; simp
    have := aE6 (w := w) (cs := cs) (es := es) (c := Pg.cellsOf e) hce k 0 ?_
    ·simp only [Nat.zero_mul, List.drop_zero] at this
     rwa [List.take_of_length_le (by rw [hce]; omega)] at this
    ·intro i _ hi
     obtain ⟨y, hy⟩ := hf i (by omega)
     exact ih deep e es hes _ _ _ hy (fun q => (hsp q).sub fun v hv => List.mem_of_mem_drop (List.mem_of_mem_take hv)) hce
   ·cases h
  ·cases h
end
end Go.Gh
