/- A way of reading machine states as plain values, with its rules; no program in sight. -/
import Derived.Test.YtabeeaiilanmjaaA2
import Derived.RangeFuncOwn
import Derived.RangeFuncNested
import Derived.RecoverIn
import Derived.RangeFuncLeaves
import Derived.IntWalk
import Derived.Laws.Cover3
import Derived.Laws.IdiomCopy
import Derived.Below
import Derived.ChangeArms
import Derived.DataReads
import Derived.WideShapes
import Derived.Carry
import Derived.OpenShut
import Derived.RowKit3
import Derived.ProofKit
import Derived.ChangeCalls
set_option linter.unusedVariables false
set_option linter.unusedSimpArgs false
/- Calls that hand objects on; a nil slice handed on as an object. -/
namespace Go.Gh
open Go.RowKit
variable {Pg : Program} {E : Env Pg} {C : Cx E} {σ : Sg E} {a : Act} {w : World} {π : PM} {ρ : RM} {S : Nat → Prop} {r : Option Nat}

theorem ref_row {h : Nat → Ob} {A : E.α} (R : Rel E π ρ h A S w) {id off n fz : Nat} {cs : List G} (ho : h id = .cells cs fz) (h1 : off + n ≤ fz) : VRow π ρ E.yv (ρ id).blk off ((cs.drop off).take n) := by
  have := R.objs id
  rw [ho] at this
  obtain ⟨vs, e, _, hv, hone, hf, _⟩ := this
  refine VRow.mk fun j c hc => ?_
  rw [List.getElem?_take] at hc
  split at hc
  · rw [List.getElem?_drop] at hc
    obtain ⟨u, hu, hr⟩ := hv.get _ c hc
    exact ⟨u, hf _ u (by omega) hu, hr, hone c (List.mem_of_getElem? hc)⟩
  cases hc
theorem VRow.take {y : Value} {b o : Nat} {cs : List G} (h : VRow π ρ y b o cs) (n : Nat) : VRow π ρ y b o (cs.take n) := VRow.mk fun j c hc => by
  rw [List.getElem?_take] at hc
  split at hc
  · exact h.get j c hc
  cases hc
/-- How an argument is handed on: 0: as it is; 1: as a value that nobody turns; 2: a nil slice as a new object; more: the address of so many cells that nobody turns. -/
def cvtM (h : Nat → Ob) (ad : Option Nat) : Nat → G → Option (Prop × G)
  | 0, g => some (True, g)
  | 1, g => match toP h g with
    | some (c, p) => some (c, .p p)
    | none => none
  | 2, .nils => match ad with
    | some d => some (True, .own d 0)
    | none => none
  | n + 3, .ptr cs => some (True, .ptr (cs.take n))
  | n + 3, .ref id off => match h id with
    | .cells cs fz => some (off + n ≤ fz, .ptr ((cs.drop off).take n))
    | _ => none
  | _, _ => none
def cvtsM (h : Nat → Ob) (ad : Option Nat) : List Nat → List G → Option (Prop × List G)
  | [], [] => some (True, [])
  | k :: ks, g :: gs => match cvtM h ad k g with
    | some (c, g') => match cvtsM h ad ks gs with
      | some (d, gs') => some (c ∧ d, g' :: gs')
      | none => none
    | none => none
  | _, _ => none

theorem cvtsM_ok {A : E.α} {h : Nat → Ob} (R : Rel E π ρ h A S w) {ad : Option Nat} (hn : ∀ d, ad = some d → VRel π ρ E.yv (.own d 0) (.slice none 0 0)) :
    ∀ {ks : List Nat} {gs gs' : List G} {vs : List Value} {c : Prop}, cvtsM h ad ks gs = some (c, gs') → c → VRels π ρ E.yv gs vs → VRels π ρ E.yv gs' vs
  | [], [], gs', vs, c, hg, _, hv => by simp only [cvtsM, Option.some.injEq, Prod.mk.injEq] at hg; obtain ⟨-, rfl⟩ := hg; exact hv
  | [], _ :: _, gs', vs, c, hg, _, hv => by simp [cvtsM] at hg
  | _ :: _, [], gs', vs, c, hg, _, hv => by simp [cvtsM] at hg
  | k :: ks, g :: gs, gs', vs, c, hg, hc, hv => by
    simp only [cvtsM] at hg
    split at hg
    · rename_i c1 g1 h1
      split at hg
      · rename_i d1 gs1 h2
        cases hg
        simp only [VRels] at hv ⊢
        obtain ⟨v, vs', rfl, r1, r2⟩ := hv
        refine ⟨v, vs', rfl, ?_, cvtsM_ok R hn h2 hc.2 r2⟩
        unfold cvtM at h1
        split at h1
        · cases h1; exact r1
        · split at h1
          · rename_i ht
            cases h1
            simp only [VRel]
            exact toP_ok R ht hc.1 r1
          cases h1
        · split at h1
          · cases h1
            simp only [VRel] at r1
            subst r1
            exact hn _ rfl
          cases h1
        · cases h1
          simp only [VRel] at r1 ⊢
          obtain ⟨b, o, e, hr⟩ := r1
          exact ⟨b, o, e, hr.take _⟩
        · split at h1
          · rename_i ho
            cases h1
            simp only [VRel] at r1 ⊢
            exact ⟨_, _, r1, ref_row R ho hc.1⟩
          cases h1
        cases h1
      cases hg
    cases hg

/-- What a call finds of objects: the new one for a nil slice, if there is one. -/
def adoptH (h : Nat → Ob) : Option (Nat × Ob) → Nat → Ob
  | none => h
  | some (d, ob) => upd h d ob
def AdoptOk (N : Nat) (h : Nat → Ob) (L : List (Nat × Nat)) : Option (Nat × Ob) → Prop
  | none => True
  | some (d, ob) => h d = .none ∧ N ≤ d ∧ (∃ e sz fz, ob = .arr e sz [] fz) ∧ d ∈ L.map (·.2)

theorem St.adopt (H : St C σ a w π ρ S) {L : List (Nat × Nat)} {ad : Option (Nat × Ob)} (ha : AdoptOk C.lim σ.h L ad) : ∃ ρ', St C { σ with h := adoptH σ.h ad } a w π ρ' S ∧ ∀ d, ad.map (·.1) = some d → VRel π ρ' E.yv (.own d 0) (.slice none 0 0) := by
  cases ad with
  | none => exact ⟨ρ, H, fun d hd => by cases hd⟩
  | some q =>
    obtain ⟨d, ob⟩ := q
    obtain ⟨hd, hd2, ⟨e, sz, fz, rfl⟩, _⟩ := ha
    have hdm : ∀ j, (σ.h j).men d = false := fun j => by
      cases hm : (σ.h j).men d with
      | false => rfl
      | true => exact absurd hd (H.wfh j d hm)
    obtain ⟨U1, U2⟩ := H.rel.newNil d hd hdm e sz fz
    refine ⟨_, H.putObj U1 U2 (fun j hj => ?_) (fun j hj => ?_) (fun id hid => ?_) (fun j id hm => ?_), fun d' hd' => ?_⟩
    · have : j ≠ d := fun e => hj (e ▸ hd)
      rw [upd_other _ _ this]; exact .inl rfl
    · rw [upd_other _ _ (by omega)]; exact .inl rfl
    · show upd σ.h d (Ob.arr e sz [] fz) id ≠ .none
      simp only [upd]; split
      · simp
      exact hid
    · have : ∀ id, σ.h id ≠ .none → upd σ.h d (Ob.arr e sz [] fz) id ≠ .none := fun id hid => by
        simp only [upd]; split
        · simp
        exact hid
      replace hm : (upd σ.h d (Ob.arr e sz [] fz) j).men id = true := hm
      simp only [upd] at hm
      split at hm
      · simp [Ob.men] at hm
      exact this id (H.wfh j id hm)
    simp only [Option.map_some, Option.some.injEq] at hd'
    subst hd'
    simp only [VRel, upd_same]
    exact ⟨Nat.le_refl _, fun _ => trivial⟩

theorem putsH_over {h : Nat → Ob} {d : Nat} {ob : Ob} : ∀ {ps : List (Nat × Ob)}, d ∈ ps.map (·.1) → putsH (upd h d ob) ps = putsH h ps
  | [], hd => by cases hd
  | (i, o) :: ps, hd => by
    simp only [putsH]
    by_cases hi : d = i
    · subst hi
      congr 1
      funext x
      simp only [upd]
      split <;> rfl
    have hd' : d ∈ ps.map (·.1) := by
      rw [List.map_cons, List.mem_cons] at hd
      exact hd.resolve_left hi
    have : upd (upd h d ob) i o = upd (upd h i o) d ob := funext fun x => by
      simp only [upd]
      by_cases e : x = i
      · subst e; simp [Ne.symm hi]
      simp [e]
    rw [this]
    exact putsH_over hd'
theorem adopt_puts {h : Nat → Ob} {L : List (Nat × Nat)} {ad : Option (Nat × Ob)} {N : Nat} (ha : AdoptOk N h L ad) (h' : Nat → Ob) : putsH (adoptH h ad) (putsOf L h') = putsH h (putsOf L h') := by
  cases ad with
  | none => rfl
  | some q =>
    obtain ⟨d, ob⟩ := q
    refine putsH_over ?_
    simp only [putsOf, List.map_map, Function.comp_def]
    exact ha.2.2.2

theorem call_core2 (H : St C σ a w π ρ S) {cl : Call} {f : FuncId} {gs : List G} (hg : gcallee Pg σ.fr cl = some (f, gs)) (hent : Enters Pg f) {dst : Option Tmp} {ty pos after guard}
    {J : List Nat} {c : Prop} {args : List G} {L : List (Nat × Nat)} {ks : List Nat} {ad : Option (Nat × Ob)} (ha : AdoptOk C.lim σ.h L ad) (hcv : cvtsM (rhp σ.h J) (ad.map (·.1)) ks gs = some (c, G.rens (look L) args)) (hcc : c) {hc : Nat → Ob} (hp : Pairs C.lim L (adoptH σ.h ad) hc)
    (hdis : ∀ d ob, ad = some (d, ob) → d ∉ J) {R : GRes E → Prop} (spec : Spec E f args hc σ.A R) (hok : ∀ g h' A', R (.ok g h' A') → PairsB L hc h') (hpa : ∀ p h' A', R (.panic p h' A') → PairsB L hc h') (hdst : ∀ t, dst = some t → t < C.N) :
    ∃ vs, (execOp a.eval ⟨dst, .call cl, ty, pos, after, guard⟩).run Pg w = .ok (.enter f ⟨vs⟩) w ∧ CallsIn (MF none) 0 Pg f ⟨vs⟩ w fun
      | .returned v, w' => ∃ g h' A', R (.ok g h' A') ∧ Holds C (Sg.put { σ with A := A' } dst (g.ren (look L)) (putsOf L h')) (a.put dst v) w'
      | .panicked chain, w' => ∃ p v h' A' π' ρ' S', chain = [{ v, recovered := false }] ∧ PRel π' p v ∧ R (.panic p h' A') ∧ St C { σ with A := A', h := putsH σ.h (putsOf L h') } a w' π' ρ' S'
      | .outgrown, _ => False := by
  obtain ⟨ρ1, H1, hnil⟩ := H.adopt ha
  obtain ⟨vs, hrun, hvs⟩ := call_enter H1 (cl := cl) hg hent (dst := dst) (ty := ty) (pos := pos) (after := after) (guard := guard)
  refine ⟨vs, hrun, ?_⟩
  have hJ : rhp σ.h J = rhp (adoptH σ.h ad) J := funext fun id => by
    simp only [rhp]
    split
    · rename_i hi
      cases ad with
      | none => rfl
      | some q =>
        obtain ⟨d, ob⟩ := q
        have : id ≠ d := fun e => hdis d ob rfl (e ▸ hi)
        exact (upd_other σ.h ob this).symm
    rfl
  rw [hJ] at hcv
  have hvs' := cvtsM_ok (H1.rel.restrict J) hnil hcv hcc hvs
  refine (spec π _ S w vs (H1.rel.hand hp) (VRels_ren.1 hvs')).mono fun e w' k => ?_
  have hh : ∀ h', putsH (adoptH σ.h ad) (putsOf L h') = putsH σ.h (putsOf L h') := fun h' => adopt_puts ha h'
  cases e with
  | returned v =>
    obtain ⟨π', ρ', h', A', S', g, hB, hv, hm, hR⟩ := k
    have hb := hok g h' A' hR
    have H' := H1.back hp hb hB
    obtain ⟨_, _, _, _, _, _, c7⟩ := call_back H1.rel hp hb hB H1.wfh
    obtain ⟨v1, v2⟩ := c7 g v hv hm
    have H2 := H'.putReg hdst v1 v2
    simp only [Sg.put, putsH] at H2
    rw [hh] at H2
    exact ⟨g, h', A', hR, π', _, S', H2⟩
  | panicked chain =>
    obtain ⟨π', ρ', h', A', S', p, v, hB, he, hv, hR⟩ := k
    have H' := H1.back hp (hpa p h' A' hR) hB
    simp only at H'
    rw [hh] at H'
    exact ⟨p, v, h', A', π', _, S', he, hv, hR, H'⟩
  | outgrown => exact k

theorem eff_call2 {ops : Array Oper} {o : Oper} {cl : Call} {f : FuncId} {gs args : List G} {J : List Nat} {c : Prop} {L : List (Nat × Nat)} {hc h' : Nat → Ob} {g : G} {ks : List Nat} {ad : Option (Nat × Ob)} (ho : o.op = .call cl) (hw : gwant ops σ.fr o = some true)
    (hg : gcallee Pg σ.fr cl = some (f, gs)) (hent : Enters Pg f) (ha : AdoptOk C.lim σ.h L ad) (hcv : cvtsM (rhp σ.h J) (ad.map (·.1)) ks gs = some (c, G.rens (look L) args)) (hcc : c) (hp : Pairs C.lim L (adoptH σ.h ad) hc) (hdis : ∀ d ob, ad = some (d, ob) → d ∉ J)
    (spec : Spec E f args hc σ.A fun x => x = .ok g h' σ.A) (hb : PairsB L hc h') (hdst : ∀ t, o.dst = some t → t < C.N) : Eff C r ops o σ (L.map (·.2) ++ J) (g.ren (look L)) (putsOf L h') := by
  intro σ' hA a w ⟨π, ρ, S, H⟩ K Q hK
  have hwt := gwant_ok H ((gwant_agree hA).trans hw)
  unfold wpO
  rw [hwt]
  simp only [if_true]
  have hg' : gcallee Pg σ'.fr cl = some (f, gs) := by
    rw [gcallee_congr (fr' := σ.fr)]
    · exact hg
    have := agree_ev hA
    rw [ho] at this
    simpa [Op.operands] using this
  have hrh : rhp σ'.h J = rhp σ.h J := funext fun id => by
    simp only [rhp]
    split
    · rename_i hi; exact hA.h id (by simp [hi])
    rfl
  have hL : ∀ j, j ∈ L.map (·.2) → σ'.h j = σ.h j := fun j hj => hA.h j (List.mem_append_left _ hj)
  have ha' : AdoptOk C.lim σ'.h L ad := by
    cases ad with
    | none => trivial
    | some q =>
      obtain ⟨d, ob⟩ := q
      exact ⟨(hL d ha.2.2.2).trans ha.1, ha.2.1, ha.2.2.1, ha.2.2.2⟩
  have had : ∀ j, j ∈ L.map (·.2) → adoptH σ'.h ad j = adoptH σ.h ad j := fun j hj => by
    cases ad with
    | none => exact hL j hj
    | some q => simp only [adoptH, upd]; split <;> first | rfl | exact hL j hj
  have hp' : Pairs C.lim L (adoptH σ'.h ad) hc := ⟨hp.n1, hp.n2, fun i hi => by
      obtain ⟨j, h1, h2, h3⟩ := hp.old i hi
      exact ⟨j, h1, h2, (had j (List.mem_map.2 ⟨_, h1, rfl⟩)).trans h3⟩, fun i j hm hi => by
      obtain ⟨h1, h2⟩ := hp.new i j hm hi
      exact ⟨(had j (List.mem_map.2 ⟨_, hm, rfl⟩)).trans h1, h2⟩⟩
  obtain ⟨vs, hrun, hcall⟩ := call_core2 H hg' hent (dst := o.dst) (ty := o.type) (pos := o.pos) (after := o.after) (guard := o.guard) ha' (by rw [hrh]; exact hcv) hcc hp' hdis (by rw [hA.A]; exact spec)
    (fun g2 h2 A2 e => by cases e; exact hb) (fun p h2 A2 e => by cases e) hdst
  refine ⟨fun _ _ => trivial, ?_⟩
  have hsem : Oper.semAt (MF r).round a.eval o = execOp a.eval o := by
    cases r with
    | none => rfl
    | some l => exact Oper.semAt_some l _ _ fun cl hcl => by rw [hcl] at ho; cases ho
  have hoo : execOp a.eval o = execOp a.eval ⟨o.dst, .call cl, o.type, o.pos, o.after, o.guard⟩ := by rw [← ho]
  rw [hsem, hoo, hrun]
  refine ⟨fun h => by simp [Fence.wide] at h, callsIn_any (hcall.mono fun e w' k => ?_)⟩
  cases e with
  | returned v =>
    obtain ⟨g2, h2, A2, e, H'⟩ := k
    cases e
    refine hK _ _ ?_
    have : ({ σ' with A := σ.A } : Sg E) = σ' := by rw [← hA.A]
    rwa [this] at H'
  | panicked chain => obtain ⟨p, v, h2, A2, π', ρ', S', _, _, e, _⟩ := k; cases e
  | outgrown => exact k.elim

theorem effN_call2 {ops : Array Oper} {o : Oper} {cl : Call} {f : FuncId} {gs args : List G} {J : List Nat} {c : Prop} {L : List (Nat × Nat)} {hc : Nat → Ob} {ks : List Nat} {ad : Option (Nat × Ob)} {R : GRes E → Prop} {K : Sg E → Prop} {Q : GE → Sg E → Prop} (ho : o.op = .call cl) (hw : gwant ops σ.fr o = some true)
    (hg : gcallee Pg σ.fr cl = some (f, gs)) (hent : Enters Pg f) (ha : AdoptOk C.lim σ.h L ad) (hcv : cvtsM (rhp σ.h J) (ad.map (·.1)) ks gs = some (c, G.rens (look L) args)) (hcc : c) (hp : Pairs C.lim L (adoptH σ.h ad) hc) (hdis : ∀ d ob, ad = some (d, ob) → d ∉ J)
    (spec : Spec E f args hc σ.A R) (hok : ∀ g h' A', R (.ok g h' A') → PairsB L hc h' ∧ K (Sg.put { σ with A := A' } o.dst (g.ren (look L)) (putsOf L h')))
    (hpa : ∀ p h' A', R (.panic p h' A') → PairsB L hc h' ∧ Q (.panic p) { σ with A := A', h := putsH σ.h (putsOf L h') }) (hdst : ∀ t, o.dst = some t → t < C.N) : EffN C r ops o σ K Q := by
  intro a w ⟨π, ρ, S, H⟩ K' hK
  have hwt := gwant_ok H hw
  unfold wpO
  rw [hwt]
  simp only [if_true]
  obtain ⟨vs, hrun, hcall⟩ := call_core2 H hg hent (dst := o.dst) (ty := o.type) (pos := o.pos) (after := o.after) (guard := o.guard) ha hcv hcc hp hdis spec (fun g h' A' e => (hok g h' A' e).1) (fun p h' A' e => (hpa p h' A' e).1) hdst
  refine ⟨fun _ _ => trivial, ?_⟩
  have hsem : Oper.semAt (MF r).round a.eval o = execOp a.eval o := by
    cases r with
    | none => rfl
    | some l => exact Oper.semAt_some l _ _ fun cl hcl => by rw [hcl] at ho; cases ho
  have hoo : execOp a.eval o = execOp a.eval ⟨o.dst, .call cl, o.type, o.pos, o.after, o.guard⟩ := by rw [← ho]
  rw [hsem, hoo, hrun]
  refine ⟨fun h => by simp [Fence.wide] at h, callsIn_any (hcall.mono fun e w' k => ?_)⟩
  cases e with
  | returned v =>
    obtain ⟨g2, h2, A2, e, H'⟩ := k
    exact hK _ _ _ (hok g2 h2 A2 e).2 H'
  | panicked chain =>
    obtain ⟨p, v, h2, A2, π', ρ', S', e1, e2, e3, H'⟩ := k
    exact ⟨_, p, v, π', ρ', S', e1, e2, H', (hpa p h2 A2 e3).2⟩
  | outgrown => exact k.elim

/-- The end of a function that hands objects back. -/
theorem fin_h {fn : Func} {R : GRes E → Prop} {l : List (Nat × G)} {m m' : List (Nat × Ob)} {A : E.α} {d : Prop} {g : G} {I : List Nat} (hg : gresult Pg (mkHp m) (mkFr l) fn.results.toList = some (d, g)) (hd : d) (hm : restrictL I m = m') (h1 : subB g.idl I = true) (h3 : subB (hpIds m I) I = true)
    (hne : ∀ i ∈ I, mkHp m i ≠ .none) (hR : R (.ok g (mkHp m') A)) : Fin Pg fn R (sg l m A []) := by
  simp only [subB, List.all_eq_true, decide_eq_true_eq] at h1 h3
  subst hm
  refine ⟨rfl, d, g, hg, hd, g, _, .inl rfl, ⟨fun id => ?_, fun j id hx => ?_⟩, fun id hx => ?_, hR⟩
  · rw [restrict_at]; split
    · exact .inl rfl
    exact .inr rfl
  · rw [restrict_at] at hx ⊢
    split at hx
    · rename_i hj
      have := h3 id (hp_ids hj hx)
      rw [if_pos this]; exact hne id this
    simp [Ob.men] at hx
  have := h1 id (men_idl hx)
  rw [restrict_at, if_pos this]; exact hne id this

/-! What is asked of pairs of numbers, worked out -/
def pairsP (L : List (Nat × Nat)) (h : Nat → Ob) : List (Nat × Ob) → Prop
  | [] => True
  | (i, ob) :: mc => (i, look L i) ∈ L ∧ i < 100 ∧ h (look L i) = ob.ren (look L) ∧ pairsP L h mc
def newP (N : Nat) (h : Nat → Ob) (mc : List (Nat × Ob)) : List (Nat × Nat) → Prop
  | [] => True
  | (i, j) :: L => (mkHp mc i = .none → h j = .none ∧ N ≤ j) ∧ newP N h mc L
def keysP (L : List (Nat × Nat)) : List (Nat × Ob) → Prop
  | [] => True
  | (i, _) :: mr => (i, look L i) ∈ L ∧ keysP L mr
def stayP (mr : List (Nat × Ob)) : List (Nat × Ob) → Prop
  | [] => True
  | (i, _) :: mc => mkHp mr i ≠ .none ∧ stayP mr mc
/-- No number stands twice: the first entry is the one that counts. -/
theorem pairs_mk {N : Nat} {L : List (Nat × Nat)} {h : Nat → Ob} {mc : List (Nat × Ob)} (n1 : (L.map (·.1)).Nodup) (n2 : (L.map (·.2)).Nodup) (n3 : (mc.map (·.1)).Nodup) (h1 : pairsP L h mc) (h2 : newP N h mc L) : Pairs N L h (mkHp mc) where
  n1 := n1
  n2 := n2
  old := by
    have : ∀ (mc' : List (Nat × Ob)), pairsP L h mc' → ∀ i, mkHp mc' i ≠ .none → ∃ j, (i, j) ∈ L ∧ i < 100 ∧ h j = (mkHp mc' i).ren (look L) := fun mc' => by
      induction mc' with
      | nil => intro _ i hi; exact absurd rfl hi
      | cons q mc' ih =>
        obtain ⟨k, ob⟩ := q
        intro hp i hi
        obtain ⟨p1, p2, p3, p4⟩ := hp
        rw [mkHp_cons] at hi ⊢
        split
        · rename_i e; subst e; exact ⟨_, p1, p2, p3⟩
        rename_i e; rw [if_neg e] at hi; exact ih p4 i hi
    exact this mc h1
  new := by
    have : ∀ (L' : List (Nat × Nat)), newP N h mc L' → ∀ i j, (i, j) ∈ L' → mkHp mc i = .none → h j = .none ∧ N ≤ j := fun L' => by
      induction L' with
      | nil => intro _ i j hm; cases hm
      | cons q L' ih =>
        obtain ⟨i', j'⟩ := q
        intro hp i j hm hi
        rcases List.mem_cons.1 hm with e | hm
        · cases e; exact hp.1 hi
        exact ih hp.2 i j hm hi
    exact this L h2
theorem pairsB_mk {L : List (Nat × Nat)} {mc mr : List (Nat × Ob)} (h1 : keysP L mr) (h2 : stayP mr mc) : PairsB L (mkHp mc) (mkHp mr) where
  sup := by
    have : ∀ (mr' : List (Nat × Ob)), keysP L mr' → ∀ i, mkHp mr' i ≠ .none → ∃ j, (i, j) ∈ L := fun mr' => by
      induction mr' with
      | nil => intro _ i hi; exact absurd rfl hi
      | cons q mr' ih =>
        obtain ⟨k, ob⟩ := q
        intro hp i hi
        rw [mkHp_cons] at hi
        split at hi
        · rename_i e; subst e; exact ⟨_, hp.1⟩
        exact ih hp.2 i hi
    exact this mr h1
  stay := by
    have : ∀ (mc' : List (Nat × Ob)), stayP mr mc' → ∀ i, mkHp mc' i ≠ .none → mkHp mr i ≠ .none := fun mc' => by
      induction mc' with
      | nil => intro _ i hi; exact absurd rfl hi
      | cons q mc' ih =>
        obtain ⟨k, ob⟩ := q
        intro hp i hi
        rw [mkHp_cons] at hi
        split at hi
        · rename_i e; subst e; exact hp.1
        exact ih hp.2 i hi
    exact this mc h2
theorem putsH_mk : ∀ {ps m : List (Nat × Ob)}, putsH (mkHp m) ps = mkHp (ps.reverse ++ m)
  | [], _ => rfl
  | (i, o) :: ps, m => by
    rw [putsH, List.reverse_cons, List.append_assoc]
    exact putsH_mk (ps := ps) (m := (i, o) :: m)
end Go.Gh

/- Calls of yield; the statement 'for x := range f', f a function with a contract. -/
namespace Go.Gh
open Go.RowKit
variable {Pg : Program} {E : Env Pg} {C : Cx E} {σ : Sg E} {a : Act} {w : World} {π : PM} {ρ : RM} {S : Nat → Prop} {r : Option Nat}

/-- The environment of a round: the caller's, and some blocks more that nobody turns. -/
abbrev Env.guard (E : Env Pg) (bs : List (Nat × Obj)) : Env Pg where
  α := E.α
  yv := E.yv
  one := E.one
  Res := fun A S π w => ∃ S0, E.Res A S0 π w ∧ (∀ b, S0 b → b < w.heap.size) ∧ (∀ p ∈ bs, w.heap[p.1]? = some p.2 ∧ ¬ S0 p.1) ∧ (∀ b, S b ↔ (S0 b ∨ ∃ p ∈ bs, p.1 = b))
  Can := E.Can
  Y := E.Y
  stable := fun {_ S π w w' π'} ⟨S0, h1, h0, h2, h4⟩ hb hs hsame hle hkn =>
    ⟨S0, E.stable h1 h0 hs (fun b hb0 => hsame b ((h4 b).2 (.inl hb0))) hle hkn, fun b hb0 => Nat.lt_of_lt_of_le (h0 b hb0) hs, fun p hp => ⟨(hsame p.1 ((h4 p.1).2 (.inr ⟨p, hp, rfl⟩))).1.trans (h2 p hp).1, (h2 p hp).2⟩, h4⟩
  ycall := fun {a S π w args vs} hc ⟨S0, h1, h0, h2, h4⟩ hb hk hv => by
    obtain ⟨l, fn, tmps, assign, body, e1, e2, hr⟩ := E.ycall hc h1 h0 hk hv
    refine ⟨l, fn, tmps, assign, body, e1, e2, hr.mono fun e w' k => ?_⟩
    obtain ⟨b, a', S', π', he, hY, hres, hin, hkn, hT⟩ := k
    have hlt : ∀ p ∈ bs, p.1 < w.heap.size := fun p hp => (Array.getElem?_eq_some_iff.1 (h2 p hp).1).1
    refine ⟨b, a', fun b => S' b ∨ ∃ p ∈ bs, p.1 = b, π', he, hY, ⟨S', hres, hin, fun p hp => ⟨(hT.keep p.1 (hlt p hp) (h2 p hp).2).1.trans (h2 p hp).1, fun hs => ?_⟩, fun _ => Iff.rfl⟩, fun b hb => ?_, hkn, ?_⟩
    · rcases hT.own _ hs with h | h
      · exact (h2 p hp).2 h
      have := hlt p hp; omega
    · rcases hb with hb | ⟨p, hp, rfl⟩
      · exact hin b hb
      exact Nat.lt_of_lt_of_le (hlt p hp) hT.size
    refine ⟨hT.size, hT.os, hT.tape, hT.output, fun b hb hn => hT.keep b hb fun hs => hn ((h4 b).2 (.inl hs)), hT.le, fun b hb => ?_⟩
    rcases hb with hb | hb
    · exact (hT.own b hb).imp (fun x => (h4 b).2 (.inl x)) id
    exact .inl ((h4 b).2 (.inr hb))

theorem guard_in {A : E.α} {bs : List (Nat × Obj)} {h : Nat → Ob} (R : Rel E π ρ h A S w) (h1 : ∀ p ∈ bs, w.heap[p.1]? = some p.2 ∧ ¬ Own ρ h S p.1) :
    Rel (E.guard bs) π ρ h A (fun b => S b ∨ ∃ p ∈ bs, p.1 = b) w where
  know := R.know
  objs := R.objs
  apart := R.apart
  sep := fun i b hi hb => by
    rcases hb with hb | ⟨p, hp, rfl⟩
    · exact R.sep i b hi hb
    exact (h1 p hp).2 (.inr ⟨i, hi⟩)
  res := ⟨S, R.res, R.inb, fun p hp => ⟨(h1 p hp).1, fun hl => (h1 p hp).2 (.inl hl)⟩, fun _ => Iff.rfl⟩
  inb := fun b hb => by
    rcases hb with hb | ⟨p, hp, rfl⟩
    · exact R.inb b hb
    exact (Array.getElem?_eq_some_iff.1 (h1 p hp).1).1

theorem guard_out {A : E.α} {bs : List (Nat × Obj)} {h : Nat → Ob} (R : Rel (E.guard bs) π ρ h A S w) :
    ∃ S0, Rel E π ρ h A S0 w ∧ (∀ p ∈ bs, w.heap[p.1]? = some p.2 ∧ ¬ Own ρ h S0 p.1) ∧ (∀ b, S b ↔ (S0 b ∨ ∃ p ∈ bs, p.1 = b)) := by
  obtain ⟨S0, h1, h0, h2, h4⟩ := R.res
  refine ⟨S0, ⟨R.know, R.objs, R.apart, fun i b hi hb => R.sep i b hi ((h4 b).2 (.inl hb)), h1, h0⟩, fun p hp => ⟨(h2 p hp).1, fun ho => ?_⟩, h4⟩
  rcases ho with ho | ⟨i, hi⟩
  · exact (h2 p hp).2 ho
  exact R.sep i p.1 hi ((h4 p.1).2 (.inr ⟨p, hp, rfl⟩))

/-- A block that is nobody's turns. -/
theorem know_put {l : Nat} {o : Obj} (hk : ∀ b o v, π b o = some v → w.cell? ⟨b, o, none⟩ = some v) (hn : ∀ o, w.heap[l]? = some o → o.isCells = false) : ∀ b o' v, π b o' = some v → (w.putObj l o).cell? ⟨b, o', none⟩ = some v := fun b o' v hv => by
  by_cases e : b = l
  · subst e
    have := hk _ _ _ hv
    obtain ⟨ob, ho, hc⟩ := cells_of_cell this
    rw [hn ob ho] at hc; cases hc
  have := hk _ _ _ hv
  simp only [World.cell?] at this ⊢
  rw [World.putObj_heap_other e]
  exact this
theorem Rel.other {A : E.α} {h : Nat → Ob} {l : Nat} {o : Obj} (R : Rel E π ρ h A S w) (hl : ¬ Own ρ h S l) (hn : ∀ o, w.heap[l]? = some o → o.isCells = false) : Rel E π ρ h A S (w.putObj l o) where
  know := know_put R.know hn
  objs := fun id => (R.objs id).keep (PM.le_refl _) rfl (fun _ _ => .inl rfl) fun b hb => ⟨World.putObj_heap_other fun e => hl (.inr ⟨id, e ▸ hb⟩), rfl⟩
  apart := R.apart
  sep := R.sep
  res := E.stable R.res R.inb (by simp) (fun b hb => ⟨World.putObj_heap_other fun e => hl (.inl (e ▸ hb)), rfl⟩) (PM.le_refl _) (know_put R.know hn)
  inb := fun b hb => by simpa using R.inb b hb

theorem trans_put {O : Nat → Prop} {l : Nat} {o : Obj} (hl : O l) : Trans O w π O (w.putObj l o) π :=
  ⟨by simp, rfl, rfl, rfl, fun b _ hn => ⟨World.putObj_heap_other fun e => hn (e ▸ hl), rfl⟩, PM.le_refl _, fun _ h => .inl h⟩

/-! ### Calls of yield -/
theorem effN_yield {ops : Array Oper} {o : Oper} {cl : Call} {gs : List G} {c : Prop} {xs : List P} {J : List Nat} {K : Sg E → Prop} {Q : GE → Sg E → Prop} {x : Operand} (ho : o.op = .call cl) (hx : cl.callee = .value x) (hw : gwant ops σ.fr o = some true) (hy : gev σ.fr x = .abs)
    (hgs : cl.args.toList.map (gev σ.fr) = gs) (hcv : cvts (rhp σ.h J) gs = (c, xs.map .p)) (hc : c) (hcan : E.Can σ.A xs) (hdst : ∀ t, o.dst = some t → t < C.N)
    (hk : ∀ b A', E.Y σ.A xs (.b b) A' → K (Sg.put { σ with A := A' } o.dst (.p (.bool b)) [])) (hpa : ∀ p A', E.Y σ.A xs (.p p) A' → Q (.panic p) { σ with A := A' }) : EffN C r ops o σ K Q := by
  intro a w ⟨π, ρ, S, H⟩ K' hK
  have hwt := gwant_ok H hw
  unfold wpO
  rw [hwt]
  simp only [if_true]
  refine ⟨fun _ _ => trivial, ?_⟩
  have hargs := VRels.map_ev (gev_ok H) cl.args.toList
  rw [hgs] at hargs
  have hv := cvts_ok (H.rel.restrict J) hargs (by rw [hcv]; exact hc)
  rw [hcv] at hv
  have hp := PRels.of_VRels hv
  obtain ⟨l, fn, tmps, assign, body, e1, e2, hround⟩ := E.ycall hcan H.rel.res H.rel.inb H.rel.know hp
  have hyv := gev_ok H x
  rw [hy] at hyv
  simp only [VRel] at hyv
  have hsem : Oper.semAt (MF r).round a.eval o = execOp a.eval o := by
    cases r with
    | none => rfl
    | some l => exact Oper.semAt_some l _ _ fun cl hcl => by rw [hcl] at ho; cases ho
  have hrun : (execOp a.eval o).run Pg w = .ok (.round l fn tmps assign body) w := by
    obtain ⟨dst, op, ty, pos, af, gd⟩ := o
    simp only at ho
    subst ho
    obtain ⟨callee, ⟨args⟩, ats⟩ := cl
    simp only at hx
    subst hx
    simp [execOp, resolve, hyv, e1, Deferred.ofValue, invoke]
    exact e2
  rw [hsem, hrun]
  refine ⟨fun h => by simp [Fence.wide] at h, ⟨trivial, fun c cs _ => hround.2 c cs (room_wide _)⟩ |> fun h => RoundIn.mono (h : RoundIn (MF r) _ Pg l fn tmps assign body w _) fun e w' k => ?_⟩
  obtain ⟨b, a', S', π', he, hY, hres, hinb, hknow, hT⟩ := k
  have R' : Rel E π' ρ σ.h a' S' w' := by
    have hkeep : ∀ id b, live ρ id (σ.h id) = some b → w'.heap[b]? = w.heap[b]? ∧ π' b = π b := fun id b hb => hT.keep b ((H.rel.objs id).lt hb) (H.rel.sep id b hb)
    refine ⟨hknow, fun id => (H.rel.objs id).keep hT.le rfl (fun _ _ => .inl rfl) (hkeep id), H.rel.apart, fun id b hb hs => ?_, hres, hinb⟩
    rcases hT.own b hs with h1 | h1
    · exact H.rel.sep id b hb h1
    have := (H.rel.objs id).lt hb; omega
  have T' : Trans (Own ρ σ.h S) w π (Own ρ σ.h S') w' π' := by
    refine ⟨hT.size, hT.os, hT.tape, hT.output, fun b hb hn => hT.keep b hb fun hs => hn (.inl hs), hT.le, fun b hb => ?_⟩
    rcases hb with hb | hb
    · exact (hT.own b hb).imp .inl id
    exact .inl (.inr hb)
  have H' := H.putObj R' T' (fun _ _ => .inl rfl) (fun _ _ => .inl rfl) (fun _ h => h) H.wfh
  cases b with
  | b b =>
    subst he
    refine hK _ _ _ (hk b a' hY) ⟨π', ρ, S', ?_⟩
    exact H'.putReg (dst := o.dst) (g := .p (.bool b)) (v := .bool b) hdst (VRel.bool b) (fun id hm => by simp [G.men] at hm)
  | p x =>
    obtain ⟨v, rfl, hv⟩ := he
    exact ⟨_, x, v, π', ρ, S', rfl, hv, H', hpa x a' hY⟩
end Go.Gh

/- The statement 'for x := range f', f a function that has a contract of its rounds. -/
namespace Go.Gh
open Go.RowKit
variable {Pg : Program} {E : Env Pg} {C : Cx E} {σ : Sg E} {a : Act} {w w' : World} {π π' : PM} {ρ ρ' : RM} {S S' : Nat → Prop} {r : Option Nat}

/-- An iterator's contract: it yields these, one after the other, and ends. -/
def IterSpec (Pg : Program) (f : FuncId) (args : List G) (xs : List (List P)) : Prop :=
  ∀ (E : Env Pg) (J : Nat → E.α → Prop) (Z : E.α → Prop), (∀ k a x, J k a → xs[k]? = some x → E.Can a x) →
    (∀ k a x b a', J k a → xs[k]? = some x → E.Y a x b a' → match b with | .b true => J (k + 1) a' | .b false => Z a' | .p _ => False) →
    ∀ A, J 0 A → Spec E f args (mkHp []) A fun y => ∃ v h' A', y = .ok v h' A' ∧ (J xs.length A' ∨ Z A')

/-- A state but for where it came from. -/
structure LSt (C : Cx E) (σ : Sg E) (a : Act) (w : World) (π : PM) (ρ : RM) (S : Nat → Prop) : Prop where
  size : a.tmps.size = C.N
  vals : ∀ t, VRel π ρ E.yv (σ.fr t) (a.tmps.getD t undef)
  defs : DRels π ρ E.yv σ.df a.defers
  rel : Rel E π ρ σ.h σ.A S w
  step : ∀ j, j < C.lim → RStep (C.ρ0 j) (ρ j)
  wfr : ∀ t id, (σ.fr t).men id = true → σ.h id ≠ .none
  wfh : ∀ j id, (σ.h j).men id = true → σ.h id ≠ .none
  wfd : ∀ g ∈ σ.df, ∀ id, g.men id = true → σ.h id ≠ .none
theorem St.ls (H : St C σ a w π ρ S) : LSt C σ a w π ρ S := ⟨H.size, H.vals, H.defs, H.rel, H.step, H.wfr, H.wfh, H.wfd⟩
theorem LSt.st (H : LSt C σ a w π ρ S) (T : Trans C.O0 C.w0 C.π0 (Own ρ σ.h S) w π) : St C σ a w π ρ S := ⟨H.size, H.vals, H.defs, H.rel, T, H.step, H.wfr, H.wfh, H.wfd⟩

theorem DRels.le (h : PM.le π π') {gs : List GD} {ds : List Deferred} {y : Value} (k : DRels π ρ y gs ds) : DRels π' ρ y gs ds := k.mono h fun _ _ _ _ => .inl rfl
theorem LSt.stable (H : LSt C σ a w π ρ S) (hs : w.heap.size ≤ w'.heap.size) (hsame : ∀ b, Own ρ σ.h S b → w'.heap[b]? = w.heap[b]? ∧ π' b = π b) (hle : PM.le π π')
    (hk : ∀ b o v, π' b o = some v → w'.cell? ⟨b, o, none⟩ = some v) : LSt C σ a w' π' ρ S where
  size := H.size
  vals := fun t => (H.vals t).mono hle fun _ _ => .inl rfl
  defs := H.defs.le hle
  rel := ⟨hk, fun id => (H.rel.objs id).keep hle rfl (fun _ _ => .inl rfl) fun b hb => hsame b (.inr ⟨id, hb⟩), H.rel.apart, H.rel.sep,
    E.stable H.rel.res H.rel.inb hs (fun b hb => hsame b (.inl hb)) hle hk, fun b hb => Nat.lt_of_lt_of_le (H.rel.inb b hb) hs⟩
  step := H.step
  wfr := H.wfr
  wfh := H.wfh
  wfd := H.wfd
theorem LSt.other (H : LSt C σ a w π ρ S) {l : Nat} {o : Obj} (hl : ¬ Own ρ σ.h S l) (hn : ∀ o, w.heap[l]? = some o → o.isCells = false) : LSt C σ a (w.putObj l o) π ρ S :=
  ⟨H.size, H.vals, H.defs, H.rel.other hl hn, H.step, H.wfr, H.wfh, H.wfd⟩

inductive LS (E : Env Pg) where
  | run (k : Nat) (h : Nat → Ob) (A : E.α)
  | jump (c : Code) (h : Nat → Ob) (A : E.α)

/-- The blocks of a loop over a function: its record, and others. -/
def Lp (C : Cx E) (σ : Sg E) (a : Act) (bs : List (Nat × Obj)) (S : Nat → Prop) (π : PM) (w : World) : Prop :=
  ∃ ρ S0, LSt C σ a w π ρ S0 ∧ (∀ p ∈ bs, w.heap[p.1]? = some p.2 ∧ ¬ Own ρ σ.h S0 p.1) ∧ (∀ b, S b ↔ (Own ρ σ.h S0 b ∨ ∃ p ∈ bs, p.1 = b))
theorem Lp.stable {bs : List (Nat × Obj)} (H : Lp C σ a bs S π w) (hs : w.heap.size ≤ w'.heap.size) (hsame : ∀ b, S b → w'.heap[b]? = w.heap[b]? ∧ π' b = π b) (hle : PM.le π π')
    (hk : ∀ b o v, π' b o = some v → w'.cell? ⟨b, o, none⟩ = some v) : Lp C σ a bs S π' w' := by
  obtain ⟨ρ, S0, H, h1, h2⟩ := H
  exact ⟨ρ, S0, H.stable hs (fun b hb => hsame b ((h2 b).2 (.inl hb))) hle hk, fun p hp => ⟨(hsame p.1 ((h2 _).2 (.inr ⟨p, hp, rfl⟩))).1.trans (h1 p hp).1, (h1 p hp).2⟩, h2⟩

/-- The parameters of a round. -/
def parFr : (Nat → G) → List Nat → List P → Nat → G
  | fr, p :: ps, x :: xs => parFr (upd fr p (.p x)) ps xs
  | fr, _, _ => fr
theorem par_ok {N : Nat} : ∀ {ps : List Nat} {x : List P} {vs : List Value} {fr : Nat → G} {tmps : Array Value}, PRels π x vs → tmps.size = N → (∀ p ∈ ps, p < N) → (∀ t, VRel π ρ E.yv (fr t) (tmps.getD t undef)) →
    (∀ t, VRel π ρ E.yv (parFr fr ps x t) (((ps.zip vs).foldl (fun t (p, v) => t.setIfInBounds p v) tmps).getD t undef)) ∧ ((ps.zip vs).foldl (fun t (p, v) => t.setIfInBounds p v) tmps).size = N
  | [], x, vs, fr, tmps, _, hN, _, hv => by cases x <;> exact ⟨hv, hN⟩
  | p :: ps, [], vs, fr, tmps, hx, hN, _, hv => by
    simp only [PRels] at hx; subst hx
    exact ⟨hv, hN⟩
  | p :: ps, x :: xs, vs, fr, tmps, hx, hN, hp, hv => by
    simp only [PRels] at hx
    obtain ⟨v, vs', rfl, h1, h2⟩ := hx
    simp only [List.zip_cons_cons, List.foldl_cons, parFr]
    refine par_ok h2 (by simpa using hN) (fun q hq => hp q (by simp [hq])) fun t => ?_
    have hpt := hp p (by simp)
    simp only [upd]
    by_cases e : t = p
    · subst e
      rw [if_pos rfl]
      simp [Array.getD, hN, hpt]
      simpa only [VRel] using h1
    rw [if_neg e]
    simp only [Array.getD_eq_getD_getElem?, Array.getElem?_setIfInBounds_ne (Ne.symm e)]
    have := hv t
    rwa [Array.getD_eq_getD_getElem?] at this
theorem par_men {id : Nat} : ∀ {ps : List Nat} {x : List P} {fr : Nat → G} {t : Nat}, (parFr fr ps x t).men id = true → ∃ t, (fr t).men id = true
  | [], x, fr, t, h => by cases x <;> exact ⟨t, h⟩
  | p :: ps, [], fr, t, h => ⟨t, h⟩
  | p :: ps, x :: xs, fr, t, h => by
    obtain ⟨t, h⟩ := par_men (ps := ps) h
    simp only [upd] at h
    split at h
    · simp [G.men] at h
    exact ⟨t, h⟩

def jmp : GE → Option Code
  | .ret => some .ret
  | .exit i => some (.exit i)
  | .goto t => some (.goto t)
  | _ => none

/-- How the body of a round may end. -/
def RPost {E2 : Env Pg} (C2 : Cx E2) (I : (Nat → Ob) → E2.α → Prop) (K : GE → (Nat → Ob) → E2.α → Prop) : GE → Sg E2 → Prop
  | .normal, σ => ∃ σ3, Le C2 σ σ3 ∧ I σ3.h σ3.A
  | .panic _, _ => False
  | e, σ => ∃ σ3, Le C2 σ σ3 ∧ K e σ3.h σ3.A
/-- What the assignments leave, and what the body does then. -/
def APost (C : Cx E) (lim : Nat) (l : Nat) (body : Code) (I : (Nat → Ob) → E.α → Prop) (K : GE → (Nat → Ob) → E.α → Prop) {E1 : Env Pg} (hα : E1.α = E.α) : GE → Sg E1 → Prop
  | .normal, σ => ∀ (bs : List (Nat × Obj)) (C2 : Cx (E.guard bs)), C2.N = C.N → C2.lim = lim → (∃ r0, (l, Obj.loop r0) ∈ bs) → gwp C2 (some l) body (RPost C2 I K) ⟨σ.fr, σ.h, hα ▸ σ.A, σ.df⟩
  | _, _ => False

/-- What is said of a loop over a function. -/
structure Lo (C : Cx E) where
  fr : Nat → G
  df : List GD
  ps : List Nat
  assign : Code
  body : Code
  xs : List (List P)
  lim : Nat
  I : Nat → (Nat → Ob) → E.α → Prop
  K : GE → (Nat → Ob) → E.α → Prop

def Lo.wf {C : Cx E} (L : Lo C) (h : Nat → Ob) : Prop := (∀ t id, (L.fr t).men id = true → h id ≠ .none) ∧ (∀ g ∈ L.df, ∀ id, g.men id = true → h id ≠ .none)
structure Lo.Ok {C : Cx E} (L : Lo C) : Prop where
  limC : C.lim ≤ L.lim
  limOk : L.lim ≤ 90000
  ps : ∀ p ∈ L.ps, p < C.N
  len : ∀ x ∈ L.xs, x.length = L.ps.length
  wfI : ∀ k h A, L.I k h A → L.wf h ∧ ∀ id, h id ≠ .none → id < L.lim
  wfK : ∀ e h A, L.K e h A → L.wf h
  round : ∀ k h A x, L.I k h A → L.xs[k]? = some x → ∀ (l : Nat) (bs : List (Nat × Obj)) (C1 : Cx (E.guard bs)), C1.N = C.N → C1.lim = L.lim →
    gwp C1 (some l) L.assign (APost C L.lim l L.body (L.I (k + 1)) L.K rfl) ⟨parFr L.fr L.ps x, h, A, []⟩

theorem Trans.shrink {O O' O'' : Nat → Prop} (h : Trans O w π O' w' π') (hs : ∀ b, O'' b → O' b) : Trans O w π O'' w' π' := ⟨h.size, h.os, h.tape, h.output, h.keep, h.le, fun b hb => h.own b (hs b hb)⟩
theorem own_guard {h : Nat → Ob} {S0 S1 : Nat → Prop} {bs : List (Nat × Obj)} (hS : ∀ b, S1 b ↔ (S0 b ∨ ∃ p ∈ bs, p.1 = b)) (b : Nat) : Own ρ h S1 b ↔ (Own ρ h S0 b ∨ ∃ p ∈ bs, p.1 = b) := by
  simp only [Own, hS]
  constructor
  · rintro ((h | h) | h)
    · exact .inl (.inl h)
    · exact .inr h
    exact .inl (.inr h)
  rintro ((h | h) | h)
  · exact .inl (.inl h)
  · exact .inr h
  exact .inl (.inr h)
variable {L : Lo C}
def recOf (fn : FuncId) (tmps : Array Value) (ps : Array Tmp) (assign body : Code) (D : Nat) (st : LoopState) (pe : Option Code) : Loop := { state := st, pending := pe, fn, tmps, params := ps, assign, body, defers := D }

/-- ONE ROUND. -/
theorem round_ok (ok : L.Ok) {k : Nat} {h : Nat → Ob} {A : E.α} {x : List P} {vs : List Value} (hI : L.I k h A) (hx : L.xs[k]? = some x) {l : Nat} {bs : List (Nat × Obj)} {fn : FuncId} {D : Nat} {ps : Array Tmp} (hps : ps.toList = L.ps)
    (hlb : ∀ p ∈ bs, p.1 ≠ l) (H : Lp C ⟨L.fr, h, A, L.df⟩ a ((l, .loop (recOf fn a.tmps ps L.assign L.body D .ready none)) :: bs) S π w) (hv : PRels π x vs) :
    RoundIn (MF none) 0 Pg l fn ((ps.zip ⟨vs⟩).foldl (fun t (p, v) => t.setIfInBounds p v) a.tmps) L.assign L.body w fun e w' => ∃ (b : Bool) (s' : LS E) (S' : Nat → Prop) (π' : PM), e = .returned (.bool b) ∧
      (match b, s' with
       | true, .run k' h' A' => k' = k + 1 ∧ L.I (k + 1) h' A' ∧ Lp C ⟨L.fr, h', A', L.df⟩ a ((l, .loop (recOf fn a.tmps ps L.assign L.body D .ready none)) :: bs) S' π' w'
       | false, .jump c h' A' => ∃ e, jmp e = some c ∧ L.K e h' A' ∧ Lp C ⟨L.fr, h', A', L.df⟩ a ((l, .loop (recOf fn a.tmps ps L.assign L.body D .done (some c))) :: bs) S' π' w'
       | _, _ => False) ∧ (∀ b o v, π' b o = some v → w'.cell? ⟨b, o, none⟩ = some v) ∧ (∀ b, S' b → b < w'.heap.size) ∧ Trans S w π S' w' π' := by
  obtain ⟨ρ, S0, H, hb, hS⟩ := H
  obtain ⟨wf1, hlim⟩ := ok.wfI k h A hI
  let o1 := recOf fn a.tmps ps L.assign L.body D .ready none
  let o2 := recOf fn a.tmps ps L.assign L.body D .busy none
  have hR1 := guard_in H.rel hb
  have hpar := par_ok (E := E) (ρ := ρ) (ps := L.ps) hv H.size ok.ps H.vals
  have htm : (ps.zip ⟨vs⟩).foldl (fun t (p, v) => t.setIfInBounds p v) a.tmps = (L.ps.zip vs).foldl (fun t (p, v) => t.setIfInBounds p v) a.tmps := by
    rw [← hps, ← Array.foldl_toList]
    simp
  refine roundIn_of_wpIn trivial ?_
  let C1 : Cx (E.guard ((l, .loop o1) :: bs)) := ⟨Own ρ h fun b => S0 b ∨ ∃ p ∈ (l, Obj.loop o1) :: bs, p.1 = b, w, π, ρ, C.N, L.lim, ok.limOk⟩
  have hSt1 : St C1 ⟨parFr L.fr L.ps x, h, A, []⟩ { tmps := (ps.zip ⟨vs⟩).foldl (fun t (p, v) => t.setIfInBounds p v) a.tmps, defers := [] } w π ρ (fun b => S0 b ∨ ∃ p ∈ (l, Obj.loop o1) :: bs, p.1 = b) :=
    ⟨htm ▸ hpar.2, fun t => htm ▸ hpar.1 t, rfl, hR1, Trans.refl _ _ _, fun _ _ => .inl rfl, fun t id hm => by
      obtain ⟨t, hm⟩ := par_men hm
      exact H.wfr t id hm, H.wfh, fun g hg => by cases hg⟩
  refine wpIn_mono ((ok.round k h A x hI hx l _ C1 rfl rfl).run _ _ ⟨π, ρ, _, hSt1⟩) fun e1 a1 w1 k1 => ?_
  cases e1 with
  | panic ch => obtain ⟨_, _, _, _, _, _, _, _, _, hq⟩ := k1; exact hq.elim
  | outgrown => exact k1
  | exit id => obtain ⟨_, _, hq⟩ := k1; exact hq.elim
  | goto id => obtain ⟨_, _, hq⟩ := k1; exact hq.elim
  | ret => obtain ⟨_, _, hq⟩ := k1; exact hq.elim
  | normal =>
    obtain ⟨σ1, ⟨π1, ρ1, S1, H1⟩, hq⟩ := k1
    obtain ⟨S01, R1, hb1, hS1⟩ := guard_out H1.rel
    have hl1 := (hb1 _ (List.mem_cons_self ..)).1
    have hlt1 := (Array.getElem?_eq_some_iff.1 hl1).1
    have hnc1 : ∀ o', w1.heap[l]? = some o' → o'.isCells = false := fun o' ho => by rw [hl1] at ho; cases ho; rfl
    refine ⟨_, run_beginRound hl1 rfl, ?_⟩
    let w2 := w1.putObj l (.loop o2)
    have hl2 : w2.heap[l]? = some (.loop o2) := World.putObj_heap_same hlt1
    have R2 : Rel E π1 ρ1 σ1.h σ1.A S01 w2 := R1.other (hb1 _ (List.mem_cons_self ..)).2 hnc1
    have hb2 : ∀ p ∈ (l, Obj.loop o2) :: bs, w2.heap[p.1]? = some p.2 ∧ ¬ Own ρ1 σ1.h S01 p.1 := fun p hp => by
      rcases List.mem_cons.1 hp with rfl | hp
      · exact ⟨hl2, (hb1 _ (List.mem_cons_self ..)).2⟩
      have := hb1 p (List.mem_cons_of_mem _ hp)
      exact ⟨(World.putObj_heap_other (hlb p hp)).trans this.1, this.2⟩
    let S2 : Nat → Prop := fun b => S01 b ∨ ∃ p ∈ (l, Obj.loop o2) :: bs, p.1 = b
    let C2 : Cx (E.guard ((l, .loop o2) :: bs)) := ⟨Own ρ1 σ1.h S2, w2, π1, ρ1, C.N, L.lim, ok.limOk⟩
    have hSt2 : St C2 ⟨σ1.fr, σ1.h, σ1.A, σ1.df⟩ a1 w2 π1 ρ1 S2 := ⟨H1.size, H1.vals, H1.defs, guard_in R2 hb2, Trans.refl _ _ _, fun _ _ => .inl rfl, H1.wfr, H1.wfh, H1.wfd⟩
    have hsets : ∀ b, (∃ p ∈ (l, Obj.loop o1) :: bs, p.1 = b) ↔ ∃ p ∈ (l, Obj.loop o2) :: bs, p.1 = b := fun b => by simp
    have hT12 : Trans S w π (Own ρ1 σ1.h S2) w2 π1 := by
      have t1 : Trans S w π (Own ρ1 σ1.h S1) w1 π1 := H1.trans.weaken fun b hb' => (hS b).2 ((own_guard (fun _ => Iff.rfl) b).1 hb')
      have t2 : Trans (Own ρ1 σ1.h S1) w1 π1 (Own ρ1 σ1.h S1) w2 π1 := trans_put ((own_guard hS1 l).2 (.inr ⟨_, List.mem_cons_self .., rfl⟩))
      refine (t1.trans t2).shrink fun b hb' => (own_guard hS1 b).2 ?_
      exact ((own_guard (S1 := S2) (fun _ => Iff.rfl) b).1 hb').imp id (hsets b).2
    -- the end of the round
    have fin : ∀ (jump : Option Code) (σ3 : Sg (E.guard ((l, .loop o2) :: bs))) (a3 : Act) (w3 : World), Holds C2 σ3 a3 w3 → L.wf σ3.h →
        (Instr.endRound l jump).run Pg w3 = .ok (.bool jump.isNone) (w3.putObj l (.loop (recOf fn a.tmps ps L.assign L.body D (if jump.isNone then .ready else .done) jump))) ∧ ∃ S' π',
          Lp C ⟨L.fr, σ3.h, σ3.A, L.df⟩ a ((l, .loop (recOf fn a.tmps ps L.assign L.body D (if jump.isNone then .ready else .done) jump)) :: bs) S' π' (w3.putObj l (.loop (recOf fn a.tmps ps L.assign L.body D (if jump.isNone then .ready else .done) jump))) ∧
          (∀ b o v, π' b o = some v → (w3.putObj l (.loop (recOf fn a.tmps ps L.assign L.body D (if jump.isNone then .ready else .done) jump))).cell? ⟨b, o, none⟩ = some v) ∧
          (∀ b, S' b → b < (w3.putObj l (.loop (recOf fn a.tmps ps L.assign L.body D (if jump.isNone then .ready else .done) jump))).heap.size) ∧
          Trans S w π S' (w3.putObj l (.loop (recOf fn a.tmps ps L.assign L.body D (if jump.isNone then .ready else .done) jump))) π' := fun jump σ3 a3 w3 ⟨π3, ρ3, S3, H3⟩ hwf3 => by
      obtain ⟨S03, R3, hb3, hS3⟩ := guard_out H3.rel
      have hl3 := (hb3 _ (List.mem_cons_self ..)).1
      have hlt3 := (Array.getElem?_eq_some_iff.1 hl3).1
      have hnc3 : ∀ o', w3.heap[l]? = some o' → o'.isCells = false := fun o' ho => by rw [hl3] at ho; cases ho; rfl
      have hle : PM.le π π3 := PM.le_trans H1.trans.le H3.trans.le
      have hst : ∀ j, j < L.lim → RStep (ρ j) (ρ3 j) := fun j hj => (H1.step j hj).trans (H3.step j hj)
      let o4 := recOf fn a.tmps ps L.assign L.body D (if jump.isNone then .ready else .done) jump
      let S4 : Nat → Prop := fun b => Own ρ3 σ3.h S03 b ∨ ∃ p ∈ (l, Obj.loop o4) :: bs, p.1 = b
      have hLS : LSt C ⟨L.fr, σ3.h, σ3.A, L.df⟩ a w3 π3 ρ3 S03 :=
        ⟨H.size, fun t => (H.vals t).mono hle fun id hm => hst id (hlim id (H.wfr t id hm)), H.defs.mono hle fun id g hg hm => hst id (hlim id (H.wfd g hg id hm)), R3,
          fun j hj => (H.step j hj).trans (hst j (Nat.lt_of_lt_of_le hj ok.limC)), hwf3.1, H3.wfh, hwf3.2⟩
      have hb4 : ∀ p ∈ (l, Obj.loop o4) :: bs, (w3.putObj l (.loop o4)).heap[p.1]? = some p.2 ∧ ¬ Own ρ3 σ3.h S03 p.1 := fun p hp => by
        rcases List.mem_cons.1 hp with rfl | hp
        · exact ⟨World.putObj_heap_same hlt3, (hb3 _ (List.mem_cons_self ..)).2⟩
        have := hb3 p (List.mem_cons_of_mem _ hp)
        exact ⟨(World.putObj_heap_other (hlb p hp)).trans this.1, this.2⟩
      refine ⟨run_endRound jump hl3, S4, π3, ⟨ρ3, S03, hLS.other (hb3 _ (List.mem_cons_self ..)).2 hnc3, hb4, fun _ => Iff.rfl⟩, know_put R3.know hnc3, fun b hb' => ?_, ?_⟩
      · rcases hb' with (hb' | ⟨id, hb'⟩) | ⟨p, hp, rfl⟩
        · simpa using R3.inb b hb'
        · simpa using (R3.objs id).lt hb'
        exact (Array.getElem?_eq_some_iff.1 (hb4 p hp).1).1
      have t3 : Trans S w π (Own ρ3 σ3.h S3) w3 π3 := hT12.trans H3.trans
      have t4 : Trans (Own ρ3 σ3.h S3) w3 π3 (Own ρ3 σ3.h S3) (w3.putObj l (.loop o4)) π3 := trans_put ((own_guard hS3 l).2 (.inr ⟨_, List.mem_cons_self .., rfl⟩))
      refine (t3.trans t4).shrink fun b hb' => (own_guard hS3 b).2 (hb'.imp id fun ⟨p, hp, e⟩ => ?_)
      rcases List.mem_cons.1 hp with rfl | hp
      · exact ⟨_, List.mem_cons_self .., e⟩
      exact ⟨p, List.mem_cons_of_mem _ hp, e⟩
    refine wpIn_mono ((hq _ C2 rfl rfl ⟨_, List.mem_cons_self ..⟩).run a1 w2 ⟨π1, ρ1, S2, hSt2⟩) fun e3 a3 w3 k3 => ?_
    have jumps : ∀ (e : GE) (c : Code), jmp e = some c → (∃ σ2, Holds C2 σ2 a3 w3 ∧ ∃ σ3, Le C2 σ2 σ3 ∧ L.K e σ3.h σ3.A) → ∃ v w4, (Instr.endRound l (some c)).run Pg w3 = .ok v w4 ∧ ∃ (b : Bool) (s' : LS E) (S' : Nat → Prop) (π' : PM), Ending.returned v = .returned (.bool b) ∧
        (match b, s' with
         | true, .run k' h' A' => k' = k + 1 ∧ L.I (k + 1) h' A' ∧ Lp C ⟨L.fr, h', A', L.df⟩ a ((l, .loop (recOf fn a.tmps ps L.assign L.body D .ready none)) :: bs) S' π' w4
         | false, .jump c h' A' => ∃ e, jmp e = some c ∧ L.K e h' A' ∧ Lp C ⟨L.fr, h', A', L.df⟩ a ((l, .loop (recOf fn a.tmps ps L.assign L.body D .done (some c))) :: bs) S' π' w4
         | _, _ => False) ∧ (∀ b o v, π' b o = some v → w4.cell? ⟨b, o, none⟩ = some v) ∧ (∀ b, S' b → b < w4.heap.size) ∧ Trans S w π S' w4 π' := fun e c hj ⟨σ2, H2, σ3, hle, hK⟩ => by
      obtain ⟨hr, S', π', f1, f2, f3, f4⟩ := fin (some c) σ3 a3 w3 (hle _ _ H2) (ok.wfK _ _ _ hK)
      exact ⟨_, _, hr, false, .jump c σ3.h σ3.A, S', π', rfl, ⟨e, hj, hK, f1⟩, f2, f3, f4⟩
    cases e3 with
    | panic ch => obtain ⟨_, _, _, _, _, _, _, _, _, hq⟩ := k3; exact hq.elim
    | outgrown => exact k3
    | exit id => exact jumps (.exit id) _ rfl k3
    | goto id => exact jumps (.goto id) _ rfl k3
    | ret => exact jumps .ret _ rfl k3
    | normal =>
      obtain ⟨σ2, H2, σ3, hle, hI3⟩ := k3
      obtain ⟨hr, S', π', f1, f2, f3, f4⟩ := fin none σ3 a3 w3 (hle _ _ H2) (ok.wfI _ _ _ hI3).1
      exact ⟨_, _, hr, true, .run (k + 1) σ3.h σ3.A, S', π', rfl, ⟨rfl, hI3, f1⟩, f2, f3, f4⟩
end Go.Gh

/- The statement 'for x := range f': the whole of it. -/
namespace Go.Gh
open Go.RowKit
variable {Pg : Program} {E : Env Pg} {C : Cx E} {σ : Sg E} {a : Act} {w w' : World} {π π' : PM} {ρ ρ' : RM} {S S' : Nat → Prop} {r : Option Nat} {L : Lo C}

def LRes (L : Lo C) (a : Act) (l : Nat) (mk : LoopState → Option Code → Loop) (bs : List (Nat × Obj)) : LS E → (Nat → Prop) → PM → World → Prop
  | .run _ h A, S, π, w => Lp C ⟨L.fr, h, A, L.df⟩ a ((l, .loop (mk .ready none)) :: bs) S π w
  | .jump c h A, S, π, w => Lp C ⟨L.fr, h, A, L.df⟩ a ((l, .loop (mk .done (some c))) :: bs) S π w
def LCan (L : Lo C) : LS E → List P → Prop
  | .run k h A, x => L.I k h A ∧ L.xs[k]? = some x
  | _, _ => False
def LY (L : Lo C) : LS E → List P → YR → LS E → Prop
  | .run k _ _, _, .b true, .run k' h' A' => k' = k + 1 ∧ L.I (k + 1) h' A'
  | .run _ _ _, _, .b false, .jump c h' A' => ∃ e, jmp e = some c ∧ L.K e h' A'
  | _, _, _, _ => False

/-- The environment of the function that is ranged over. -/
def lenv (ok : L.Ok) (a : Act) (l : Nat) (fn : FuncId) (D : Nat) {ps : Array Tmp} (hps : ps.toList = L.ps) (bs : List (Nat × Obj)) (hlb : ∀ p ∈ bs, p.1 ≠ l) : Env Pg where
  α := LS E
  yv := .func (.yield l) #[] #[]
  one := rfl
  Res := LRes L a l (recOf fn a.tmps ps L.assign L.body D) bs
  Can := LCan L
  Y := LY L
  stable := fun {s S π w w' π'} H _ hs hsame hle hk => by
    cases s with
    | run k h A => exact Lp.stable H hs hsame hle hk
    | jump c h A => exact Lp.stable H hs hsame hle hk
  ycall := fun {s S π w args vs} hc H hin hk hv => by
    cases s with
    | jump c h A => exact hc.elim
    | run k h A =>
      obtain ⟨hI, hx⟩ := hc
      have hlen : vs.length = ps.size := by
        rw [hv.length, ok.len _ (List.mem_of_getElem? hx), ← hps]; simp
      have hl := (H : Lp C _ a _ S π w)
      obtain ⟨_, _, _, hb, _⟩ := hl
      have hl := (hb _ (List.mem_cons_self ..)).1
      refine ⟨l, fn, _, L.assign, L.body, rfl, run_yield hl (by simpa [recOf] using hlen), (round_ok ok hI hx hps hlb H hv).mono fun e w' kk => ?_⟩
      obtain ⟨b, s', S', π', he, hm, h1, h2, h3⟩ := kk
      refine ⟨.b b, s', S', π', he, ?_, ?_, h2, h1, h3⟩
      · cases b <;> cases s' <;> first | exact hm.elim | skip
        · obtain ⟨e, h1, h2, _⟩ := hm; exact ⟨e, h1, h2⟩
        obtain ⟨h1, h2, _⟩ := hm; exact ⟨h1, h2⟩
      cases b <;> cases s' <;> first | exact hm.elim | skip
      · obtain ⟨e, h1, h2, h3⟩ := hm; exact h3
      obtain ⟨h1, h2, h3⟩ := hm; exact h3

/-- How a value may be read otherwise: as it is; as one that nobody turns; as an address of so many cells that nobody turns; as a function with other captured values. -/
inductive Sp where
  | k
  | p
  | n (ss : List Sp)
  | f (ss : List Sp)
mutual
def cvS (h : Nat → Ob) : Sp → G → Option (Prop × G)
  | .k, g => some (True, g)
  | .p, g => match toP h g with
    | some (c, p) => some (c, .p p)
    | none => none
  | .n ss, .ptr cs => match cvSs h ss (cs.take ss.length) with
    | some (c, cs') => some (c ∧ allOne cs' = true, .ptr cs')
    | none => none
  | .n ss, .ref id off => match h id with
    | .cells cs fz => match cvSs h ss ((cs.drop off).take ss.length) with
      | some (c, cs') => some (c ∧ off + ss.length ≤ fz ∧ allOne cs' = true, .ptr cs')
      | none => none
    | _ => none
  | .f ss, .fn f a b => match cvSs h ss b with
    | some (c, b') => some (c, .fn f a b')
    | none => none
  | _, _ => none
def cvSs (h : Nat → Ob) : List Sp → List G → Option (Prop × List G)
  | [], [] => some (True, [])
  | s :: ss, g :: gs => match cvS h s g with
    | some (c, g') => match cvSs h ss gs with
      | some (d, gs') => some (c ∧ d, g' :: gs')
      | none => none
    | none => none
  | _, _ => none
end

mutual
theorem cvS_ok {h : Nat → Ob} {A : E.α} (R : Rel E π ρ h A S w) : ∀ {s : Sp} {g g' : G} {c : Prop} {v : Value}, cvS h s g = some (c, g') → c → VRel π ρ E.yv g v → VRel π ρ E.yv g' v
  | .k, g, g', c, v, hg, _, hv => by simp only [cvS, Option.some.injEq, Prod.mk.injEq] at hg; obtain ⟨-, rfl⟩ := hg; exact hv
  | .p, g, g', c, v, hg, hc, hv => by
    simp only [cvS] at hg
    split at hg
    · rename_i ht
      cases hg
      have := toP_ok R ht hc hv
      simpa only [VRel] using this
    cases hg
  | .n ss, g, g', c, v, hg, hc, hv => by
    cases g <;> simp only [cvS, reduceCtorEq] at hg
    · rename_i cs
      split at hg
      · rename_i c1 cs' hcs
        cases hg
        simp only [VRel] at hv ⊢
        obtain ⟨b, o, e, hr⟩ := hv
        exact ⟨b, o, e, cvSs_row R hcs hc.1 (hr.take _) hc.2⟩
      cases hg
    rename_i id off
    split at hg
    · rename_i cs fz ho
      split at hg
      · rename_i c1 cs' hcs
        cases hg
        simp only [VRel] at hv ⊢
        exact ⟨_, _, hv, cvSs_row R hcs hc.1 (ref_row R ho hc.2.1) hc.2.2⟩
      cases hg
    cases hg
  | .f ss, g, g', c, v, hg, hc, hv => by
    cases g <;> simp only [cvS, reduceCtorEq] at hg
    split at hg
    · rename_i c1 b' hb
      cases hg
      simp only [VRel] at hv ⊢
      obtain ⟨as, bs, e, h1, h2⟩ := hv
      exact ⟨as, bs, e, h1, cvSs_ok R hb hc h2⟩
    cases hg
theorem cvSs_ok {h : Nat → Ob} {A : E.α} (R : Rel E π ρ h A S w) : ∀ {ss : List Sp} {gs gs' : List G} {c : Prop} {vs : List Value}, cvSs h ss gs = some (c, gs') → c → VRels π ρ E.yv gs vs → VRels π ρ E.yv gs' vs
  | [], [], gs', c, vs, hg, _, hv => by
    simp only [cvSs, Option.some.injEq, Prod.mk.injEq] at hg
    obtain ⟨-, rfl⟩ := hg
    exact hv
  | [], _ :: _, _, _, _, hg, _, _ => by simp [cvSs] at hg
  | _ :: _, [], _, _, _, hg, _, _ => by simp [cvSs] at hg
  | s :: ss, g :: gs, gs', c, vs, hg, hc, hv => by
    simp only [cvSs] at hg
    split at hg
    · rename_i c1 g1 h1
      split at hg
      · rename_i c2 gs2 h2
        cases hg
        simp only [VRels] at hv ⊢
        obtain ⟨v, vs', rfl, r1, r2⟩ := hv
        exact ⟨v, vs', rfl, cvS_ok R h1 hc.1 r1, cvSs_ok R h2 hc.2 r2⟩
      cases hg
    cases hg
theorem cvSs_row {h : Nat → Ob} {A : E.α} (R : Rel E π ρ h A S w) : ∀ {ss : List Sp} {gs gs' : List G} {c : Prop} {b o : Nat}, cvSs h ss gs = some (c, gs') → c → VRow π ρ E.yv b o gs → allOne gs' = true → VRow π ρ E.yv b o gs'
  | [], [], gs', c, b, o, hg, _, hv, _ => by
    simp only [cvSs, Option.some.injEq, Prod.mk.injEq] at hg
    obtain ⟨-, rfl⟩ := hg
    exact hv
  | [], _ :: _, _, _, _, _, hg, _, _, _ => by simp [cvSs] at hg
  | _ :: _, [], _, _, _, _, hg, _, _, _ => by simp [cvSs] at hg
  | s :: ss, g :: gs, gs', c, b, o, hg, hc, hv, h1o => by
    simp only [cvSs] at hg
    split at hg
    · rename_i c1 g1 h1
      split at hg
      · rename_i c2 gs2 h2
        cases hg
        simp only [allOne, Bool.and_eq_true] at h1o
        simp only [VRow] at hv ⊢
        obtain ⟨⟨u, r1, r2, r3⟩, r4⟩ := hv
        exact ⟨⟨u, r1, cvS_ok R h1 hc.1 r2, h1o.1⟩, cvSs_row R h2 hc.2 r4 h1o.2⟩
      cases hg
    cases hg
end
mutual
theorem cvS_men {h : Nat → Ob} (hw : ∀ j id, (h j).men id = true → h id ≠ .none) : ∀ {s : Sp} {g g' : G} {c : Prop}, cvS h s g = some (c, g') → (∀ id, g.men id = true → h id ≠ .none) → ∀ id, g'.men id = true → h id ≠ .none
  | .k, g, g', c, hg, hm => by simp only [cvS, Option.some.injEq, Prod.mk.injEq] at hg; obtain ⟨-, rfl⟩ := hg; exact hm
  | .p, g, g', c, hg, hm => by
    simp only [cvS] at hg
    split at hg
    · cases hg; intro id h; simp [G.men] at h
    cases hg
  | .n ss, g, g', c, hg, hm => by
    cases g <;> simp only [cvS, reduceCtorEq] at hg
    · split at hg
      · rename_i hcs
        cases hg
        simp only [G.men] at hm ⊢
        exact cvSs_men hw hcs fun id h => hm id (mens_take h)
      cases hg
    split at hg
    · rename_i cs fz ho
      split at hg
      · rename_i hcs
        cases hg
        simp only [G.men]
        exact cvSs_men hw hcs fun id h => hw _ id (by rw [ho]; exact mens_drop (mens_take h))
      cases hg
    cases hg
  | .f ss, g, g', c, hg, hm => by
    cases g <;> simp only [cvS, reduceCtorEq] at hg
    split at hg
    · rename_i hb
      cases hg
      intro id h
      simp only [G.men, Bool.or_eq_true] at hm h
      rcases h with h | h
      · exact hm id (.inl h)
      exact cvSs_men hw hb (fun id h => hm id (.inr h)) id h
    cases hg
theorem cvSs_men {h : Nat → Ob} (hw : ∀ j id, (h j).men id = true → h id ≠ .none) : ∀ {ss : List Sp} {gs gs' : List G} {c : Prop}, cvSs h ss gs = some (c, gs') → (∀ id, G.mens id gs = true → h id ≠ .none) → ∀ id, G.mens id gs' = true → h id ≠ .none
  | [], [], gs', c, hg, hm => by
    simp only [cvSs, Option.some.injEq, Prod.mk.injEq] at hg
    obtain ⟨-, rfl⟩ := hg
    exact hm
  | [], _ :: _, _, _, hg, _ => by simp [cvSs] at hg
  | _ :: _, [], _, _, hg, _ => by simp [cvSs] at hg
  | s :: ss, g :: gs, gs', c, hg, hm => by
    simp only [cvSs] at hg
    split at hg
    · rename_i c1 g1 h1
      split at hg
      · rename_i c2 gs2 h2
        cases hg
        intro id h
        simp only [G.mens, Bool.or_eq_true] at hm h
        rcases h with h | h
        · exact cvS_men hw h1 (fun id h => hm id (.inl h)) id h
        exact cvSs_men hw h2 (fun id h => hm id (.inr h)) id h
      cases hg
    cases hg
end
/-- A value that leads to nothing of the caller's. -/
def imm : G → Bool
  | .p _ => true
  | .nils => true
  | .agg cs => imms cs
  | .tuple cs => imms cs
  | .fn _ a b => imms a && imms b
  | .iface _ x => imm x
  | .ptr cs => imms cs
  | _ => false
where imms : List G → Bool
  | [] => true
  | g :: gs => imm g && imms gs
mutual
theorem imm_rel {ρ2 : RM} {y y2 : Value} : ∀ {g : G} {v : Value}, imm g = true → VRel π ρ y g v → VRel π ρ2 y2 g v
  | .p _, v, _, h => by simpa only [VRel] using h
  | .nils, v, _, h => by simpa only [VRel] using h
  | .agg cs, v, hi, h => by
    simp only [imm] at hi
    simp only [VRel] at h ⊢
    obtain ⟨vs, e, h⟩ := h
    exact ⟨vs, e, imms_rel hi h⟩
  | .tuple cs, v, hi, h => by
    simp only [imm] at hi
    simp only [VRel] at h ⊢
    obtain ⟨vs, e, h⟩ := h
    exact ⟨vs, e, imms_rel hi h⟩
  | .fn f a b, v, hi, h => by
    simp only [imm, Bool.and_eq_true] at hi
    simp only [VRel] at h ⊢
    obtain ⟨as, bs, e, h1, h2⟩ := h
    exact ⟨as, bs, e, imms_rel hi.1 h1, imms_rel hi.2 h2⟩
  | .iface t x, v, hi, h => by
    simp only [imm] at hi
    simp only [VRel] at h ⊢
    obtain ⟨u, e, h⟩ := h
    exact ⟨u, e, imm_rel hi h⟩
  | .ptr cs, v, hi, h => by
    simp only [imm] at hi
    simp only [VRel] at h ⊢
    obtain ⟨b, o, e, h⟩ := h
    exact ⟨b, o, e, imms_row hi h⟩
  | .ref _ _, _, hi, _ => by simp [imm] at hi
  | .own _ _, _, hi, _ => by simp [imm] at hi
  | .aref _ _ _, _, hi, _ => by simp [imm] at hi
  | .fsl _ _ _, _, hi, _ => by simp [imm] at hi
  | .map _, _, hi, _ => by simp [imm] at hi
  | .abs, _, hi, _ => by simp [imm] at hi
  | .undef, _, hi, _ => by simp [imm] at hi
theorem imms_rel {ρ2 : RM} {y y2 : Value} : ∀ {gs : List G} {vs : List Value}, imm.imms gs = true → VRels π ρ y gs vs → VRels π ρ2 y2 gs vs
  | [], vs, _, h => by simpa only [VRels] using h
  | g :: gs, vs, hi, h => by
    simp only [imm.imms, Bool.and_eq_true] at hi
    simp only [VRels] at h ⊢
    obtain ⟨v, vs', e, h1, h2⟩ := h
    exact ⟨v, vs', e, imm_rel hi.1 h1, imms_rel hi.2 h2⟩
theorem imms_row {ρ2 : RM} {y y2 : Value} {b : Nat} : ∀ {gs : List G} {o : Nat}, imm.imms gs = true → VRow π ρ y b o gs → VRow π ρ2 y2 b o gs
  | [], o, _, h => by simp only [VRow]
  | g :: gs, o, hi, h => by
    simp only [imm.imms, Bool.and_eq_true] at hi
    simp only [VRow] at h ⊢
    obtain ⟨⟨u, h1, h2, h3⟩, h4⟩ := h
    exact ⟨⟨u, h1, imm_rel hi.1 h2, h3⟩, imms_row hi.2 h4⟩
end

def grange (fr : Nat → G) (g : Operand) : Option (FuncId × List G × List G) := match gev fr g with
  | .p (.fn (.func f) a b) => some (f, a.map .p, b.map .p)
  | .fn (.func f) a b => some (f, a, b)
  | _ => none
theorem grange_ok (H : St C σ a w π ρ S) {g : Operand} {f : FuncId} {ga gb : List G} (hg : grange σ.fr g = some (f, ga, gb)) : ∃ us vs, a.eval g = .func (.func f) ⟨us⟩ ⟨vs⟩ ∧ VRels π ρ E.yv ga us ∧ VRels π ρ E.yv gb vs := by
  have hv := gev_ok H g
  unfold grange at hg
  split at hg
  · rename_i he
    cases hg
    rw [he] at hv
    simp only [VRel, PRel] at hv
    obtain ⟨us, vs, e, h1, h2⟩ := hv
    exact ⟨us, vs, e, .of_PRels h1, .of_PRels h2⟩
  · rename_i he
    cases hg
    rw [he] at hv
    simp only [VRel] at hv
    exact hv
  cases hg

theorem Rel.mark {h : Nat → Ob} {A : E.α} (R : Rel E π ρ h A S w) {d D : Nat} (hd : h d = .none) (hdm : ∀ j, (h j).men d = false) (hD : w.heap[D]? = some (.deferred (some []))) (hn : ¬ Own ρ h S D) :
    Rel E π (upd ρ d ⟨D, undef, 0⟩) (upd h d .mark) A S w := by
  have hl : ∀ j, j ≠ d → live (upd ρ d ⟨D, undef, 0⟩) j (upd h d .mark j) = live ρ j (h j) := fun j hj => by
    rw [upd_other _ _ hj]
    cases h j <;> simp [live, upd_other _ _ hj]
  have hld : live (upd ρ d ⟨D, undef, 0⟩) d (upd h d .mark d) = some D := by simp [upd_same, live]
  refine ⟨R.know, fun j => ?_, fun i j b hij hi hj => ?_, fun i b hi => ?_, R.res, R.inb⟩
  · by_cases hj : j = d
    · subst hj; rw [upd_same]
      show w.heap[(upd ρ j ⟨D, undef, 0⟩ j).blk]? = _
      rw [upd_same]; exact hD
    rw [upd_other _ _ hj]
    refine (R.objs j).keep (PM.le_refl _) (upd_other _ _ hj) (fun i hm => ?_) fun b hb => ⟨rfl, rfl⟩
    by_cases e : i = d
    · subst e; rw [hdm j] at hm; cases hm
    rw [upd_other _ _ e]; exact .inl rfl
  · by_cases hi' : i = d
    · subst hi'
      rw [hld] at hi; cases hi
      rw [hl j (Ne.symm hij)] at hj
      exact hn (.inr ⟨j, hj⟩)
    rw [hl i hi'] at hi
    by_cases hj' : j = d
    · subst hj'
      rw [hld] at hj; cases hj
      exact hn (.inr ⟨i, hi⟩)
    rw [hl j hj'] at hj
    exact R.apart i j b hij hi hj
  by_cases hi' : i = d
  · subst hi'
    rw [hld] at hi; cases hi
    exact fun hs => hn (.inl hs)
  rw [hl i hi'] at hi
  exact R.sep i b hi

theorem LSt.alloc (H : LSt C σ a w π ρ S) (o : Obj) : LSt C σ a (w.alloc o) π ρ S := H.stable (by simp) (fun b hb => ⟨Below.heap_alloc w _ b (by
    rcases hb with hb | ⟨id, hb⟩
    · exact H.rel.inb b hb
    exact (H.rel.objs id).lt hb), rfl⟩) (PM.le_refl _) (know_alloc H.rel.know _)
theorem own_lt {h : Nat → Ob} {A : E.α} (R : Rel E π ρ h A S w) {b : Nat} (hb : Own ρ h S b) : b < w.heap.size := by
  rcases hb with hb | ⟨id, hb⟩
  · exact R.inb b hb
  exact (R.objs id).lt hb

theorem wp_jump {Q : Exit → Act → World → Prop} {e : GE} {c : Code} (hj : jmp e = some c) (hq : match e with | .ret => Q .ret a w | .exit i => Q (.exit i) a w | .goto t => Q (.goto t) a w | _ => False) : c.wpIn (MF r) 0 Pg Q a w := by
  cases e <;> simp only [jmp, Option.some.injEq, reduceCtorEq] at hj
  · subst hj; exact wpIn_exit hq
  · subst hj; exact wpIn_goto hq
  subst hj; exact wpIn_ret hq
theorem gpost_jump {Q : GE → Sg E → Prop} {e : GE} {c : Code} (hj : jmp e = some c) (H : Holds C σ a w) (hq : Q e σ) : c.wpIn (MF r) 0 Pg (GPost C Q) a w := by
  refine wp_jump hj ?_
  cases e <;> simp only [jmp, reduceCtorEq] at hj
  · exact ⟨σ, H, hq⟩
  · exact ⟨σ, H, hq⟩
  exact ⟨σ, H, hq⟩

/-- What the function that is ranged over leaves. -/
theorem range_end (ok : L.Ok) {l : Nat} {fn : FuncId} {D : Nat} {ps : Array Tmp} (hps : ps.toList = L.ps) {bs : List (Nat × Obj)} (hlb : ∀ p ∈ bs, p.1 ≠ l) {f : FuncId} {args : List G} (it : IterSpec Pg f args L.xs)
    {h : Nat → Ob} {A : E.α} (h0 : L.I 0 h A) (H : Lp C ⟨L.fr, h, A, L.df⟩ a ((l, .loop (recOf fn a.tmps ps L.assign L.body D .ready none)) :: bs) S π w)
    (hk : ∀ b o v, π b o = some v → w.cell? ⟨b, o, none⟩ = some v) (hin : ∀ b, S b → b < w.heap.size) {vs : List Value} {ρ2 : RM} (hv : VRels π ρ2 (.func (.yield l) #[] #[]) args vs) :
    CallsIn (MF none) 0 Pg f ⟨vs⟩ w fun
      | .returned _, w3 => ∃ (jump : Option Code) (h' : Nat → Ob) (A' : E.α) (S' : Nat → Prop) (π' : PM) (o : Loop), (Instr.endLoop l).run Pg w3 = .ok jump (w3.putObj l (.loop o)) ∧ Trans S w π S' (w3.putObj l (.loop o)) π' ∧
          Lp C ⟨L.fr, h', A', L.df⟩ a ((l, .loop o) :: bs) S' π' (w3.putObj l (.loop o)) ∧ (match jump with | none => L.I L.xs.length h' A' | some c => ∃ e, jmp e = some c ∧ L.K e h' A')
      | _, _ => False := by
  let E2 := lenv ok a l fn D hps bs hlb
  have hR2 : Rel E2 π ρ2 (mkHp []) (LS.run 0 h A) S w := ⟨hk, fun _ => trivial, fun i j b _ hi => by simp [mkHp, live] at hi, fun i b hi => by simp [mkHp, live] at hi, H, hin⟩
  have spec := it E2 (fun k s => ∃ h A, s = LS.run k h A ∧ L.I k h A) (fun s => ∃ c h A e, s = LS.jump c h A ∧ jmp e = some c ∧ L.K e h A)
    (fun k s x ⟨h, A, e, hI⟩ hx => by subst e; exact ⟨hI, hx⟩)
    (fun k s x b s' ⟨h, A, e, hI⟩ hx hy => by
      subst e
      cases b with
      | b b =>
        cases b <;> cases s' <;> first | exact False.elim hy | skip
        · obtain ⟨e, h1, h2⟩ := hy; exact ⟨_, _, _, e, rfl, h1, h2⟩
        obtain ⟨h1, h2⟩ := hy; exact ⟨_, _, by rw [h1], h2⟩
      | p p => cases s' <;> exact False.elim hy)
    (LS.run 0 h A) ⟨h, A, rfl, h0⟩
  refine (spec π ρ2 S w vs hR2 hv).mono fun e w3 k3 => ?_
  cases e with
  | outgrown => exact k3
  | panicked ch =>
    obtain ⟨_, _, _, _, _, _, _, _, _, _, hq⟩ := k3
    obtain ⟨_, _, _, e, _⟩ := hq
    cases e
  | returned v =>
    obtain ⟨π', ρ', h', A', S', g, hB, _, _, hq⟩ := k3
    have hq : (∃ k h A, A' = LS.run k h A ∧ k = L.xs.length ∧ L.I k h A) ∨ ∃ c h A e, A' = LS.jump c h A ∧ jmp e = some c ∧ L.K e h A := by
      obtain ⟨v, h1, A1, e, hq⟩ := hq
      cases e
      rcases hq with ⟨h, A, e, hI⟩ | hq
      · exact .inl ⟨_, h, A, e, rfl, hI⟩
      exact .inr hq
    have hS : ∀ b, Own ρ2 (mkHp []) S b → S b := fun b hb => by
      rcases hb with hb | ⟨id, hb⟩
      · exact hb
      simp [mkHp, live] at hb
    have hT := (hB.trans.weaken hS).shrink (O'' := S') fun b hb => .inl hb
    have main : ∀ (st : LoopState) (pe : Option Code) (h1 : Nat → Ob) (A1 : E.α), st ≠ .busy → Lp C ⟨L.fr, h1, A1, L.df⟩ a ((l, .loop (recOf fn a.tmps ps L.assign L.body D st pe)) :: bs) S' π' w3 →
        ∃ o, (Instr.endLoop l).run Pg w3 = .ok pe (w3.putObj l (.loop o)) ∧ Trans S w π S' (w3.putObj l (.loop o)) π' ∧ Lp C ⟨L.fr, h1, A1, L.df⟩ a ((l, .loop o) :: bs) S' π' (w3.putObj l (.loop o)) := fun st pe h1 A1 hst HL => by
      obtain ⟨ρ3, S3, H3, hb3, hS3⟩ := HL
      have hl3 := (hb3 _ (List.mem_cons_self ..)).1
      have hlt3 := (Array.getElem?_eq_some_iff.1 hl3).1
      refine ⟨_, run_endLoop hl3 hst, hT.trans (trans_put ((hS3 l).2 (.inr ⟨_, List.mem_cons_self .., rfl⟩))), ρ3, S3, H3.other (hb3 _ (List.mem_cons_self ..)).2 (fun o' ho => by rw [hl3] at ho; cases ho; rfl), fun p hp => ?_, fun b => (hS3 b).trans ?_⟩
      · rcases List.mem_cons.1 hp with rfl | hp
        · exact ⟨World.putObj_heap_same hlt3, (hb3 _ (List.mem_cons_self ..)).2⟩
        have := hb3 p (List.mem_cons_of_mem _ hp)
        exact ⟨(World.putObj_heap_other (hlb p hp)).trans this.1, this.2⟩
      simp
    rcases hq with ⟨k, h1, A1, e, hk, hI⟩ | ⟨c, h1, A1, e, he, hj, hK⟩
    · subst e
      obtain ⟨o, m1, m2, m3⟩ := main .ready none h1 A1 (by simp) hB.rel.res
      exact ⟨none, h1, A1, S', π', o, m1, m2, m3, hk ▸ hI⟩
    subst he
    obtain ⟨o, m1, m2, m3⟩ := main .done (some c) h1 A1 (by simp) hB.rel.res
    exact ⟨some c, h1, A1, S', π', o, m1, m2, m3, e, hj, hK⟩

theorem range_resolve {g : Operand} {f : FuncId} {us vs : List Value} (he : a.eval g = .func (.func f) ⟨us⟩ ⟨vs⟩) (hent : Enters Pg f) (l : Nat) (w : World) :
    ∃ d, (resolve a.eval (rangeCall g l) 0).run Pg w = .ok d w ∧ (invoke d.target d.args).run Pg w = .ok (.enter f ⟨us ++ (.func (.yield l) #[] #[] :: vs)⟩) w := by
  refine ⟨{ target := .fn (.func f) ⟨vs⟩, args := ⟨us⟩ ++ #[.func (.yield l) #[] #[]] }, ?_, ?_⟩
  · simp [resolve, he, Deferred.ofValue]; rfl
  have := hent (⟨us ++ (.func (.yield l) #[] #[] :: vs)⟩) w
  simpa [invoke] using this

/-- A LOOP OVER A FUNCTION, outermost. -/
theorem gwp_range (L : Lo C) (ok : L.Ok) {g : Operand} {ps : Array Tmp} (hps : ps.toList = L.ps) {f : FuncId} {ga gb aa ab : List G} {ka kb : List Sp} {ca cb : Prop} {assign body : Code} (hg : grange σ.fr g = some (f, ga, gb)) (hent : Enters Pg f)
    (hca : cvSs σ.h ka ga = some (ca, aa)) (hcb : cvSs σ.h kb gb = some (cb, ab)) (hia : imm.imms aa = true) (hib : imm.imms ab = true) (h1 : ca) (h2 : cb) (it : IterSpec Pg f (aa ++ (.abs :: ab)) L.xs) (hfr : L.fr = σ.fr) (hdf : L.df = σ.df) (has : L.assign = assign) (hbo : L.body = body) (h0 : L.I 0 σ.h σ.A) {d : Nat} (hd : C.lim ≤ d)
    {Q : GE → Sg E → Prop} (hK : ∀ e h A, L.K e h A → h d = .none ∧ Q e ⟨L.fr, upd h d .mark, A, .mark d :: L.df⟩) (hI : ∀ h A, L.I L.xs.length h A → h d = .none ∧ Q .normal ⟨L.fr, upd h d .mark, A, .mark d :: L.df⟩) :
    gwp C none (.rangeFunc g ps assign body) Q σ := ⟨fun a w ⟨π, ρ, S, H⟩ => by
  subst has hbo
  refine wpIn_rangeFunc fun fn _ => ?_
  obtain ⟨us, vs, he, hu, hv⟩ := grange_ok H hg
  let D := w.heap.size
  let l := w.heap.size + 1
  let rc := recOf fn a.tmps ps L.assign L.body D .ready none
  let w1 := (w.alloc (.deferred (some []))).alloc (.loop rc)
  have hl1 : w1.heap[l]? = some (.loop rc) := by
    have := World.alloc_heap_new (w.alloc (.deferred (some []))) (.loop rc); rwa [World.size_alloc] at this
  have hD1 : w1.heap[D]? = some (.deferred (some [])) := (Below.heap_alloc _ _ _ (by simp [D])).trans (World.alloc_heap_new w _)
  have hσ : (⟨L.fr, σ.h, σ.A, L.df⟩ : Sg E) = σ := by rw [hfr, hdf]
  have hLS : LSt C ⟨L.fr, σ.h, σ.A, L.df⟩ a w1 π ρ S := by rw [hσ]; exact (H.ls.alloc _).alloc _
  have hno : ∀ b, w.heap.size ≤ b → ¬ Own ρ σ.h S b := fun b hb ho => by have := own_lt H.rel ho; omega
  let S1 : Nat → Prop := fun b => Own ρ σ.h S b ∨ ∃ p ∈ [(l, Obj.loop rc), (D, .deferred (some []))], p.1 = b
  have HL : Lp C ⟨L.fr, σ.h, σ.A, L.df⟩ a [(l, .loop rc), (D, .deferred (some []))] S1 π w1 := ⟨ρ, S, hLS, fun p hp => by
      simp only [List.mem_cons, List.not_mem_nil, or_false] at hp
      rcases hp with rfl | rfl
      · exact ⟨hl1, hno _ (by simp [l])⟩
      exact ⟨hD1, hno _ (by simp [D])⟩, fun _ => Iff.rfl⟩
  have hT1 : Trans C.O0 C.w0 C.π0 S1 w1 π := by
    refine ⟨Nat.le_trans H.trans.size (by simp [w1]; omega), H.trans.os, H.trans.tape, H.trans.output, fun b hb hn => ?_, H.trans.le, fun b hb => ?_⟩
    · have hb' : b < w.heap.size := Nat.lt_of_lt_of_le hb H.trans.size
      refine ⟨?_, (H.trans.keep b hb hn).2⟩
      exact ((Below.heap_alloc _ _ b (by simp; omega)).trans (Below.heap_alloc w _ b hb')).trans (H.trans.keep b hb hn).1
    rcases hb with hb | ⟨p, hp, rfl⟩
    · exact H.trans.own b hb
    have := H.trans.size
    simp only [List.mem_cons, List.not_mem_nil, or_false] at hp
    rcases hp with rfl | rfl
    · exact .inr (by simp [l]; omega)
    exact .inr (by simp [D]; omega)
  obtain ⟨dd, hres, hinv⟩ := range_resolve he hent l w1
  have hargs : VRels π ρ (.func (.yield l) #[] #[]) (aa ++ (.abs :: ab)) (us ++ (.func (.yield l) #[] #[] :: vs)) :=
    (imms_rel hia (cvSs_ok H.rel hca h1 hu)).append (by simp only [VRels, VRel]; exact ⟨_, _, rfl, rfl, imms_rel hib (cvSs_ok H.rel hcb h2 hv)⟩)
  refine ⟨l, [{ target := .collected D, args := #[] }], w1, dd, w1, f, _, w1, run_enterLoop_outer _ _ _ _ _, hres, fun _ _ => trivial, hinv, fun h => by simp [Fence.wide] at h, ?_⟩
  refine callsIn_any ((range_end ok hps (bs := [(D, .deferred (some []))]) (fun p hp => by simp at hp; subst hp; simp [D, l]) it h0 HL (know_alloc (know_alloc H.rel.know _) _) (fun b hb => ?_) hargs).mono fun e w3 k3 => ?_)
  · rcases hb with hb | ⟨p, hp, rfl⟩
    · have := own_lt H.rel hb; simp [w1]; omega
    simp only [List.mem_cons, List.not_mem_nil, or_false] at hp
    rcases hp with rfl | rfl <;> simp [w1, l, D]
    omega
  cases e with
  | panicked ch => exact k3.elim
  | outgrown => exact k3.elim
  | returned v =>
    obtain ⟨jump, h', A', S', π', o, hend, hT, HLp, hj⟩ := k3
    obtain ⟨ρ3, S3, H3, hb3, hS3⟩ := HLp
    have hhd : h' d = .none := by
      cases jump with
      | none => exact (hI h' A' hj).1
      | some c => obtain ⟨e, _, hk⟩ := hj; exact (hK e h' A' hk).1
    have hdm : ∀ j, (h' j).men d = false := fun j => by
      cases hm : (h' j).men d with
      | false => rfl
      | true => exact absurd hhd (H3.wfh j d hm)
    have hDb := hb3 (D, .deferred (some [])) (by simp)
    have R4 := H3.rel.mark hhd hdm hDb.1 hDb.2
    have hne : ∀ id, h' id ≠ .none → upd h' d Ob.mark id ≠ .none := fun id hid => by
      simp only [upd]; split
      · simp
      exact hid
    have hidd : ∀ id, h' id ≠ .none → upd ρ3 d ⟨D, undef, 0⟩ id = ρ3 id := fun id hid => upd_other _ _ fun e => hid (e ▸ hhd)
    have hSt : St C ⟨L.fr, upd h' d .mark, A', .mark d :: L.df⟩ { a with defers := [{ target := .collected D, args := #[] }] ++ a.defers } (w3.putObj l (.loop o)) π' (upd ρ3 d ⟨D, undef, 0⟩) S3 := by
      refine ⟨H3.size, fun t => (H3.vals t).mono (PM.le_refl _) fun id hm => .inl (hidd id (H3.wfr t id hm)), ?_, R4, ?_, fun j hj => ?_, fun t id hm => hne id (H3.wfr t id hm), fun j id hm => ?_, fun g hg id hm => ?_⟩
      · exact ⟨_, _, rfl, by simp [DRel, upd_same], H3.defs.mono (PM.le_refl _) fun id g hg hm => .inl (hidd id (H3.wfd g hg id hm))⟩
      · refine (hT1.trans hT).shrink fun b hb => (hS3 b).2 ?_
        rcases hb with hb | ⟨id, hb⟩
        · exact .inl (.inl hb)
        by_cases e : id = d
        · subst e
          simp only [upd_same, live, Option.some.injEq] at hb
          exact .inr ⟨(D, .deferred (some [])), by simp, hb⟩
        simp only [upd_other _ _ e] at hb
        refine .inl (.inr ⟨id, ?_⟩)
        have e2 : upd ρ3 d ⟨D, undef, 0⟩ id = ρ3 id := upd_other _ _ e
        show live ρ3 id (h' id) = some b
        cases ho : h' id <;> rw [ho] at hb <;> simp only [live, e2, reduceCtorEq] at hb ⊢ <;> exact hb
      · rw [upd_other _ _ (by omega)]; exact H3.step j hj
      · simp only [upd] at hm
        split at hm
        · simp [Ob.men] at hm
        exact hne id (H3.wfh j id hm)
      rcases List.mem_cons.1 hg with rfl | hg
      · simp only [GD.men, beq_iff_eq] at hm
        subst hm
        show upd h' d Ob.mark d ≠ .none
        rw [upd_same]; simp
      exact hne id (H3.wfd g hg id hm)
    refine ⟨jump, _, hend, ?_⟩
    cases jump with
    | none => exact ⟨_, ⟨π', _, S3, hSt⟩, (hI h' A' hj).2⟩
    | some c =>
      obtain ⟨e, hjm, hk⟩ := hj
      exact gpost_jump hjm ⟨π', _, S3, hSt⟩ (hK e h' A' hk).2⟩
end Go.Gh

/- Cells that nobody turns from now on; addresses of such cells; deferred calls; how a function leaves. -/
namespace Go.Gh
open Go.RowKit
variable {Pg : Program} {E : Env Pg} {C : Cx E} {σ : Sg E} {a : Act} {w w' : World} {π π' : PM} {ρ ρ' : RM} {S S' : Nat → Prop} {r : Option Nat}

theorem mens_append {id : Nat} : ∀ {gs hs : List G}, G.mens id (gs ++ hs) = (G.mens id gs || G.mens id hs)
  | [], hs => by simp [G.mens]
  | g :: gs, hs => by simp only [List.cons_append, G.mens, mens_append, Bool.or_assoc]

/-- From here on nobody turns the first cells of an object. -/
theorem Le.freeze {id fz n : Nat} {cs cs1 : List G} {ss : List Sp} {c : Prop} (ho : σ.h id = .cells cs fz) (hn : fz ≤ n) (hn2 : n ≤ cs.length) (hcv : cvSs σ.h ss (cs.take n) = some (c, cs1)) (hc : c) (h1 : allOne cs1 = true) :
    Le C σ { σ with h := upd σ.h id (.cells (cs1 ++ cs.drop n) n) } := fun a w ⟨π, ρ, S, H⟩ => by
  have hid := H.rel.objs id
  rw [ho] at hid
  obtain ⟨vs, e, hw, hv, hone, hf, hnone⟩ := hid
  have hlen := hv.length
  let π' : PM := fun b o => if b = (ρ id).blk then (if o < n then vs[o]? else none) else π b o
  have hle : PM.le π π' := fun b o v hk => by
    simp only [π']
    split
    · rename_i e; subst e
      have ho' : o < fz := by
        apply Nat.lt_of_not_le; intro hle
        rw [hnone o hle] at hk; cases hk
      rw [if_pos (by omega)]
      cases hvo : vs[o]? with
      | none => rw [List.getElem?_eq_none_iff] at hvo; omega
      | some u => rw [hf o u ho' hvo] at hk; exact hk
    exact hk
  have hrefl : upd ρ id (ρ id) = ρ := by funext j; unfold upd; split <;> simp_all
  have hnew : VRels π ρ E.yv (cs1 ++ cs.drop n) vs := by
    have h1 := cvSs_ok H.rel hcv hc (hv.take n)
    have h2 := hv.drop n
    have := h1.append h2
    rwa [List.take_append_drop] at this
  have T := H.rel.turn (w' := w) (π' := π') id (ρ id) (.cells (cs1 ++ cs.drop n) n) (Nat.le_refl _) rfl rfl rfl (fun b hb hne => ⟨rfl, ?_⟩) hle (fun b o v hk => ?_) (fun _ _ _ => .inl rfl) ?_ (fun b hb => ?_)
  · obtain ⟨R', T'⟩ := T
    rw [hrefl] at R' T'
    have hne : ∀ i, σ.h i ≠ .none → upd σ.h id (Ob.cells (cs1 ++ cs.drop n) n) i ≠ .none := fun i hi => by
      simp only [upd]; split
      · simp
      exact hi
    refine ⟨π', ρ, S, H.putObj R' T' (fun _ _ => .inl rfl) (fun _ _ => .inl rfl) hne fun j i hm => ?_⟩
    simp only [upd] at hm
    split at hm
    · simp only [Ob.men, mens_append, Bool.or_eq_true] at hm
      refine hne i ?_
      rcases hm with hm | hm
      · exact cvSs_men H.wfh hcv (fun i hm => H.wfh id i (by rw [ho]; exact mens_take hm)) i hm
      exact H.wfh id i (by rw [ho]; exact mens_drop hm)
    exact hne i (H.wfh j i hm)
  · funext o
    simp only [π']
    rw [if_neg]
    intro e
    exact hne (by rw [ho]; simp [live, e])
  · simp only [π'] at hk
    split at hk
    · rename_i e; subst e
      split at hk
      · rw [cell_of_block hw]
        simpa using hk
      cases hk
    exact H.rel.know _ _ _ hk
  · rw [hrefl]
    refine ⟨vs, e, hw, hnew.mono hle fun _ _ => .inl rfl, fun c hc => ?_, fun j u hj hu => ?_, fun j hj => ?_⟩
    · rcases List.mem_append.1 hc with hc | hc
      · exact allOne_spec h1 c hc
      exact hone c (List.mem_of_mem_drop hc)
    · simp only [π', if_true]; rw [if_pos hj]; exact hu
    simp only [π', if_true]; rw [if_neg (by omega)]
  rw [hrefl] at hb
  rw [ho]; exact .inl hb

/-- A register read otherwise. -/
theorem Le.conv {t : Nat} {s : Sp} {c : Prop} {g : G} (hcv : cvS σ.h s (σ.fr t) = some (c, g)) (hc : c) : Le C σ { σ with fr := upd σ.fr t g } := fun a w ⟨π, ρ, S, H⟩ =>
  ⟨π, ρ, S, H.size, fun k => by
    show VRel π ρ E.yv (upd σ.fr t g k) _
    simp only [upd]
    split
    · rename_i e; subst e
      exact cvS_ok H.rel hcv hc (H.vals k)
    · exact H.vals k, H.defs, H.rel, H.trans, H.step, fun k i hm => by
    replace hm : (upd σ.fr t g k).men i = true := hm
    simp only [upd] at hm
    split at hm
    · exact cvS_men H.wfh hcv (H.wfr t) i hm
    exact H.wfr k i hm, H.wfh, H.wfd⟩

/-! ### Deferred calls -/
def gdefer (fr : Nat → G) (cl : Call) : Option GD := match cl.callee with
  | .value x => match gev fr x with
    | .p (.fn (.func f) a b) => some (.call f (a.map .p ++ cl.args.toList.map (gev fr)) (b.map .p))
    | .fn (.func f) a b => some (.call f (a ++ cl.args.toList.map (gev fr)) b)
    | _ => none
  | _ => none
theorem effN_defer {ops : Array Oper} {o : Oper} {cl : Call} {d : GD} {K : Sg E → Prop} {Q : GE → Sg E → Prop} (ho : o.op = .defer cl) (hw : gwant ops σ.fr o = some true) (hd : gdefer σ.fr cl = some d) (hdst : o.dst = none)
    (hk : K { σ with df := d :: σ.df }) : EffN C none ops o σ K Q := by
  intro a w ⟨π, ρ, S, H⟩ K' hK
  have hwt := gwant_ok H hw
  unfold wpO
  rw [hwt]
  simp only [if_true]
  refine ⟨fun _ _ => trivial, ?_⟩
  obtain ⟨dst, op, ty, pos, af, gd⟩ := o
  simp only at ho hdst
  subst ho hdst
  obtain ⟨callee, ⟨args⟩, ats⟩ := cl
  have hargs := VRels.map_ev (gev_ok H) args
  have hm : ∀ id, d.men id = true → σ.h id ≠ .none := fun id hm => by
    unfold gdefer at hd
    split at hd
    · rename_i x hx
      simp only at hx
      have hx2 := gev_men H x id
      have ha : ∀ id, G.mens id (args.map (gev σ.fr)) = true → σ.h id ≠ .none := fun id hm => by
        obtain ⟨g, hg, hm⟩ := mens_true.1 hm
        obtain ⟨y, _, rfl⟩ := List.mem_map.1 hg
        exact gev_men H y id hm
      split at hd
      · cases hd
        simp only [GD.men, mens_append, mens_map_p, Bool.false_or, Bool.or_false] at hm
        exact ha id hm
      · rename_i f' as bs he
        cases hd
        rw [he] at hx2
        simp only [GD.men, mens_append, Bool.or_eq_true] at hm
        rcases hm with (hm | hm) | hm
        · exact hx2 (by simp [G.men, hm])
        · exact ha id hm
        exact hx2 (by simp [G.men, hm])
      cases hd
    cases hd
  have hrun : ∃ dd, (Oper.semAt (MF none).round a.eval ⟨none, .defer ⟨callee, ⟨args⟩, ats⟩, ty, pos, af, gd⟩).run Pg w = .ok (.defer dd) w ∧ DRel π ρ E.yv d dd := by
    unfold gdefer at hd
    split at hd
    · rename_i x hx
      simp only at hx
      subst hx
      have hv := gev_ok H x
      split at hd
      · rename_i f' as bs he
        cases hd
        rw [he] at hv
        simp only [VRel, PRel] at hv
        obtain ⟨us, vs, hv, h1, h2⟩ := hv
        refine ⟨{ target := .fn (.func f') ⟨vs⟩, args := ⟨us ++ args.map a.eval⟩ }, ?_, _, _, rfl, (VRels.of_PRels h1).append hargs, VRels.of_PRels h2⟩
        rw [show (MF none).round = none from rfl, Oper.semAt_none]
        simp [execOp, resolve, hv, Deferred.ofValue]
      · rename_i f' as bs he
        cases hd
        rw [he] at hv
        simp only [VRel] at hv
        obtain ⟨us, vs, hv, h1, h2⟩ := hv
        refine ⟨{ target := .fn (.func f') ⟨vs⟩, args := ⟨us ++ args.map a.eval⟩ }, ?_, _, _, rfl, h1.append hargs, h2⟩
        rw [show (MF none).round = none from rfl, Oper.semAt_none]
        simp [execOp, resolve, hv, Deferred.ofValue]
      cases hd
    cases hd
  obtain ⟨dd, hrun, hdd⟩ := hrun
  rw [hrun]
  refine hK _ _ _ hk ⟨π, ρ, S, H.size, H.vals, ⟨dd, _, rfl, hdd, H.defs⟩, H.rel, H.trans, H.step, H.wfr, H.wfh, fun g hg id hi => ?_⟩
  rcases List.mem_cons.1 hg with rfl | hg
  · exact hm id hi
  exact H.wfd g hg id hi

/-! ### Functions that are called when another one leaves -/
def GMode (π : PM) : Option P → FrameMode → Prop
  | none, u => u = .returning
  | some p, u => ∃ v, u = .panicking [{ v, recovered := false }] ∧ PRel π p v
theorem GMode.le {md : Option P} {u : FrameMode} (h : GMode π md u) (hle : PM.le π π') : GMode π' md u := by
  cases md with
  | none => exact h
  | some p => obtain ⟨v, e, hv⟩ := h; exact ⟨v, e, hv.mono hle⟩
theorem GMode.run {md : Option P} {u : FrameMode} (h : GMode π md u) : u ≠ .run := by
  cases md with
  | none => rw [h]; simp
  | some p => obtain ⟨v, e, hv⟩ := h; rw [e]; simp

/-- A deferred function that lets no panic by. -/
def DSpec (E : Env Pg) (f : FuncId) (args : List G) (h : Nat → Ob) (A : E.α) (md : Option P) (R : GRes E → Prop) : Prop :=
  ∀ π ρ S w vs u, Rel E π ρ h A S w → VRels π ρ E.yv args vs → GMode π md u → CallsDIn (MF none) 0 Pg f ⟨vs⟩ u w fun e u' w' => settle u' = .returning ∧ CallPost E π ρ h S w R e w'

/-- What recover tells. -/
def recG : Option P → G
  | none => .p .niliface
  | some p => .p p
theorem recoverD_mode {md : Option P} {c : Frame} {cs : List Frame} (hm : GMode π md c.mode) :
    ∃ u' v, VRel π ρ E.yv (recG md) v ∧ settle u' = .returning ∧ ((recoverD (c :: cs) = some (v, { c with mode := u' } :: cs)) ∨ (recoverD (c :: cs) = none ∧ v = .nilIface ∧ u' = c.mode)) := by
  cases md with
  | none =>
    refine ⟨c.mode, .nilIface, by simp [recG, VRel, PRel], ?_, .inr ⟨?_, rfl, rfl⟩⟩
    · rw [show c.mode = .returning from hm]; rfl
    simp only [recoverD, show c.mode = .returning from hm]
  | some p =>
    obtain ⟨v, e, hv⟩ := hm
    refine ⟨.panicking [{ v, recovered := true }], v, by simpa only [recG, VRel] using hv, rfl, .inl ?_⟩
    simp only [recoverD, e]

def isRecover (o : Oper) : Bool := o.guard.isNone && match o.op with
  | .call cl => (match cl.callee with | .builtin .recover => true | _ => false)
  | _ => false
theorem run_recover {o : Oper} (h : isRecover o = true) (w : World) : (execOp a.eval o).run Pg w = .ok .recover w ∧ o.about Pg w a.eval = none ∧ o.guard = none := by
  obtain ⟨dst, op, ty, pos, af, gd⟩ := o
  simp only [isRecover, Bool.and_eq_true, Option.isNone_iff_eq_none] at h
  obtain ⟨hg, h⟩ := h
  subst hg
  cases op <;> simp only [Bool.false_eq_true] at h
  rename_i cl
  obtain ⟨callee, args, ats⟩ := cl
  cases callee <;> simp only [Bool.false_eq_true] at h
  rename_i b
  cases b <;> simp only [Bool.false_eq_true] at h
  refine ⟨?_, ?_, rfl⟩
  · simp [execOp, resolve, Deferred.ofValue, invoke, builtin]
  simp [Oper.about, resolve, Target.leads]

theorem wpSIn_recover {ops : Array Oper} {rc : Oper} {rest : List Oper} {id : Nat} {Q : Exit → Act → List Frame → World → Prop} {cs cs' : List Frame} {v : Value} (hops : ops.toList = rc :: rest) (hrc : isRecover rc = true)
    (hrec : recoverD cs = some (v, cs') ∨ (recoverD cs = none ∧ v = .nilIface ∧ cs' = cs)) (h : wpListIn (MF none) 0 Pg ops (fun e a w => Q e a cs' w) rest (a.put rc.dst v) w) : (Code.region id ops false).wpSIn (MF none) 0 Pg Q a cs w := by
  intro b k hb hro hF hroom
  have hlen : cs'.length = cs.length := by
    rcases hrec with h | ⟨_, _, h⟩
    · exact recoverD_length h
    rw [h]
  have ho : ops[0]? = some rc := by rw [← Array.getElem?_toList, hops]; rfl
  have hsz : ops.size = rest.length + 1 := by rw [← Array.length_toList, hops]; rfl
  have hrange : List.range ops.size = 0 :: List.range' 1 rest.length := by rw [List.range_eq_range', hsz, List.range'_succ]
  obtain ⟨hrun, hab, hgd⟩ := run_recover (Pg := Pg) (a := a) hrc w
  have hlist : wpOpsIn (MF none) 0 Pg ops (fun e a w => Q e a cs' w) (List.range' 1 rest.length) (a.put rc.dst v) w := by
    rw [wpOpsIn_eq_wpListIn rest 1 (fun j => by rw [← Array.getElem?_toList, hops, Nat.add_comm]; simp)]
    exact h
  have s0 : StepsIn (Machine.fenced Pg (MF none)) Pg (lone (b.atR a (.code (.region id ops false) :: k)) cs w) (lone (b.atR a (.inRegion ops (List.range ops.size) :: k)) cs w) := .one (fenced_calm hF hroom rfl) stepR_region
  have hwt : Region.wanted rc (yielded ops a.tmps) = true := by simp [Region.wanted, hgd]
  have h0 : (lone (b.atR a (.inRegion ops (0 :: List.range' 1 rest.length) :: k)) cs w).fenced Pg (MF none) := fenced_oper hF hroom ho (fun f hf => by rw [hab] at hf; cases hf)
  have hg := stepGR_op (P := Pg) (b := b) (a := a) (k := k) (cs := cs) (w := w) (rest := List.range' 1 rest.length) ho hwt
  rw [hro, Oper.semAt_none] at hg
  have hfin : ∀ v, (b.atR a (.inRegion ops (0 :: List.range' 1 rest.length) :: k)).finish v = b.atR (a.put rc.dst v) (.inRegion ops (List.range' 1 rest.length) :: k) := by
    intro v; rw [Frame.finish_atR, ho]; rfl
  have hk : (b.atR a (.inRegion ops (0 :: List.range' 1 rest.length) :: k)).kind = .deferred := hb
  have htr := tryRecover_deferred hk cs
  have hstep : step Pg (lone (b.atR a (.inRegion ops (0 :: List.range' 1 rest.length) :: k)) cs w) = .next (lone (b.atR (a.put rc.dst v) (.inRegion ops (List.range' 1 rest.length) :: k)) cs' w) := by
    refine step_lone_go ?_
    rw [hg, ← hfin]
    simp only [Frame.atR, hro] at htr ⊢
    rcases hrec with hr | ⟨hr, rfl, rfl⟩
    · simp [stepG.apply, hrun, htr, hr]
    simp [stepG.apply, hrun, htr, hr]
  obtain ⟨e, a', w', hq, harr⟩ := wp_opsIn _ _ _ hlist b k cs' hro hF (hlen ▸ hroom)
  rw [hrange] at s0
  exact ⟨e, a', cs', w', hlen, hq, .of_steps (StepsIn.trans s0 (.one h0 hstep)) harr⟩
end Go.Gh

/- Contracts of deferred functions; how a function with deferred calls leaves; its contract. -/
namespace Go.Gh
open Go.RowKit
variable {Pg : Program} {E : Env Pg} {C : Cx E} {σ : Sg E} {a : Act} {w w' : World} {π π' : PM} {ρ ρ' : RM} {S S' : Nat → Prop} {r : Option Nat}

/-- A state at a function's end yields what is asked. -/
theorem Fin.out {fn : Func} {R : GRes E → Prop} {h : Nat → Ob} {N : Nat} {hl : N ≤ 90000} (h100 : N = 100) (hF : Fin Pg fn R σ) (H : St (⟨Own ρ h S, w, π, ρ, fn.ntmps, N, hl⟩ : Cx E) σ a w' π' ρ' S') :
    a.defers = [] ∧ ∃ v, (results fn a.tmps).run Pg w' = .ok v w' ∧ CallPost E π ρ h S w R (.returned v) w' := by
  subst h100
  obtain ⟨hdf, c, g, hg, hc, g', h', hgg, hs, hm', hR⟩ := hF
  have hd := H.defs
  rw [hdf] at hd
  obtain ⟨⟨v, hv, hr⟩, hm⟩ := gresult_ok H hg hc
  have hr' : VRel π' ρ' E.yv g' v := by
    rcases hgg with rfl | ⟨c', p, h1, h2, rfl⟩
    · exact hr
    simp only [VRel]; exact toP_ok H.rel h1 h2 hr
  exact ⟨hd, v, hv, π', ρ', h', σ.A, S', g', Behind.sub ⟨H.rel, H.trans, H.step, H.wfh⟩ hs, hr', hm', hR⟩

/-- The end of a deferred function: it lets no panic by. -/
def DFin (Pg : Program) {E : Env Pg} (fn : Func) (R : GRes E → Prop) : GE → Sg E → Prop
  | .normal, σ => Fin Pg fn R σ
  | .ret, σ => Fin Pg fn R σ
  | _, _ => False

/-- What recover is put into. -/
def dstart (rc : Oper) (args : List G) (h : Nat → Ob) (A : E.α) (md : Option P) : Sg E := ⟨putF (frOf args) rc.dst (recG md), h, A, []⟩

theorem oper_mono {F : Fence} {n : Nat} {o : Oper} {K K' : Act → World → Prop} {Q Q' : Exit → Act → World → Prop} (h : ∀ a w, K a w → K' a w) (hq : ∀ e a w, Q e a w → Q' e a w) (hh : o.wpIn F n Pg a w K Q) : o.wpIn F n Pg a w K' Q' := by
  unfold Oper.wpIn at *
  refine ⟨hh.1, ?_⟩
  have hh := hh.2
  have hl : LetsOut Q → LetsOut Q' := fun ⟨a, w, k⟩ => ⟨a, w, hq _ _ _ k⟩
  generalize (o.semAt F.round a.eval).run Pg w = r at *
  cases r with
  | ok x w' =>
    cases x <;> simp only [Oper.uponIn] at hh ⊢ <;>
      first
        | exact h _ _ hh
        | exact ⟨hh.1, CallsIn.mono hh.2 (fun e w'' he => by cases e <;> first | exact h _ _ he | exact hq _ _ _ he | exact hl he)⟩
        | exact ⟨hh.1, RowsIn.mono hh.2 (fun _ _ he => h _ _ he)⟩
        | exact ⟨hh.1, RoundIn.mono hh.2 (fun e w'' he => by cases e <;> first | exact h _ _ he | exact hq _ _ _ he | exact hl he)⟩
  | halt x w' => cases x <;> simp only [Oper.uponIn] at hh ⊢ <;> first | exact hq _ _ _ hh | exact hh
theorem wpListIn_mono {ops : Array Oper} {Q Q' : Exit → Act → World → Prop} (hq : ∀ e a w, Q e a w → Q' e a w) : ∀ {l : List Oper} {a : Act} {w : World}, wpListIn (MF none) 0 Pg ops Q l a w → wpListIn (MF none) 0 Pg ops Q' l a w
  | [], a, w, h => hq _ _ _ h
  | o :: l, a, w, h => by
    simp only [wpListIn] at h ⊢
    split at h
    · rename_i hw; rw [if_pos hw]
      exact oper_mono (fun a w k => wpListIn_mono hq k) hq h
    rename_i hw; rw [if_neg hw]
    exact ⟨h.1, wpListIn_mono hq h.2⟩

def dcode (id : Nat) (ops : Array Oper) : Option Code → Code
  | none => .region id ops false
  | some c2 => .seq (.region id ops false) c2
def dpost (C : Cx E) (fn : Func) (R : GRes E → Prop) : Option Code → GE → Sg E → Prop
  | none => DFin Pg fn R
  | some c2 => gthen (gwp C none c2 (DFin Pg fn R)) (DFin Pg fn R)
theorem dspec_core {f : FuncId} {fn : Func} {c : Code} {args : List G} {h : Nat → Ob} {A : E.α} {md : Option P} {R : GRes E → Prop} {id : Nat} {ops : Array Oper} {rc : Oper} {rest : List Oper} (hf : Pg.funcs[f]? = some fn) (hb : fn.body = some c)
    (hops : ops.toList = rc :: rest) (hrc : isRecover rc = true) (hN : args.length ≤ fn.ntmps) (hdst : ∀ t, rc.dst = some t → t < fn.ntmps) (w1 : ∀ g ∈ args, ∀ id, g.men id = true → h id ≠ .none) (w2 : ∀ j id, (h j).men id = true → h id ≠ .none)
    (c2 : Option Code) (hc : c = dcode id ops c2)
    (hbody : ∀ C : Cx E, C.N = fn.ntmps → C.lim = 100 → gops C none ops (dpost C fn R c2) rest (dstart rc args h A md)) : DSpec E f args h A md R := by
  intro π ρ S w vs u hR hv hm
  refine callsDIn_of_wpSIn hf hb trivial fun c0 cs hu => ?_
  have hs := St.start (f := f) hR hv hN w1 w2
  let C : Cx E := ⟨Own ρ h S, w, π, ρ, fn.ntmps, 100, by omega⟩
  obtain ⟨u', v, hrv, hset, hrec⟩ := recoverD_mode (E := E) (ρ := ρ) (c := c0) (cs := cs) (md := md) (hu ▸ hm)
  have hs2 := hs.putReg (dst := rc.dst) (g := recG md) (v := v) (fun t ht => hdst t ht) hrv (fun id hx => by cases md <;> simp [recG, G.men] at hx)
  have hrec2 : recoverD (c0 :: cs) = some (v, { c0 with mode := u' } :: cs) ∨ (recoverD (c0 :: cs) = none ∧ v = .nilIface ∧ { c0 with mode := u' } :: cs = c0 :: cs) := by
    rcases hrec with h | ⟨h, e, rfl⟩
    · exact .inl h
    exact .inr ⟨h, e, rfl⟩
  have hrun := (hbody C rfl rfl).run (Act.put { tmps := ⟨vs⟩ ++ Array.replicate (fn.ntmps - (Array.mk vs).size) undef, defers := [] } rc.dst v) w ⟨π, ρ, S, hs2⟩
  have fin : ∀ (e : Exit) a' w', GPost C (DFin Pg fn R) e a' w' → bodyPostS Pg fn c0 cs (fun e u' w' => settle u' = .returning ∧ CallPost E π ρ h S w R e w') e a' ({ c0 with mode := u' } :: cs) w' := fun e a' w' k => by
    cases e with
    | normal =>
      obtain ⟨σ, ⟨π', ρ', S', H⟩, hq⟩ := k
      obtain ⟨hd, v, hv, hp⟩ := Fin.out rfl hq H
      exact ⟨hd, u', rfl, v, hv, hset, hp⟩
    | ret =>
      obtain ⟨σ, ⟨π', ρ', S', H⟩, hq⟩ := k
      obtain ⟨hd, v, hv, hp⟩ := Fin.out rfl hq H
      exact ⟨hd, u', rfl, v, hv, hset, hp⟩
    | panic ch => obtain ⟨_, _, _, _, _, _, _, _, _, hq⟩ := k; exact hq.elim
    | exit id => obtain ⟨_, _, hq⟩ := k; exact hq.elim
    | goto id => obtain ⟨_, _, hq⟩ := k; exact hq.elim
    | outgrown => exact k.elim
  cases c2 with
  | none =>
    subst hc
    refine wpSIn_recover hops hrc hrec2 ?_
    refine wpListIn_mono (fun e a' w' k => fin e a' w' k) hrun
  | some c2 =>
    subst hc
    refine wpSIn_seq (wpSIn_recover hops hrc hrec2 (wpListIn_mono (fun e a' w' k => ?_) hrun))
    cases e with
    | normal =>
      obtain ⟨σ1, H1, hq⟩ := k
      exact wpSIn_of_wpIn rfl (wpIn_mono (gwp.run hq a' w' H1) fun e a' w' k => fin e a' w' k)
    | panic ch => obtain ⟨_, _, _, _, _, _, _, _, _, hq⟩ := k; exact hq.elim
    | exit id => obtain ⟨_, _, hq⟩ := k; exact hq.elim
    | goto id => obtain ⟨_, _, hq⟩ := k; exact hq.elim
    | ret => exact fin .ret _ _ k
    | outgrown => exact k.elim

/-! ### How a function leaves -/
def GOut (Pg : Program) {E : Env Pg} (fn : Func) (R : GRes E → Prop) : List GD → Option P → (Nat → G) → (Nat → Ob) → E.α → Prop
  | [], none, fr, h, A => Fin Pg fn R ⟨fr, h, A, []⟩
  | [], some p, fr, h, A => ∃ h', Sub h' h ∧ R (.panic p h' A)
  | .mark id :: ds, md, fr, h, A => h id = .mark ∧ (∀ t, (fr t).men id = false) ∧ (∀ j, (h j).men id = false) ∧ (∀ g ∈ ds, g.men id = false) ∧ GOut Pg fn R ds md fr (upd h id .none) A
  | .call f args caps :: ds, md, fr, h, A => Enters Pg f ∧ ∃ J c args' L hc R2, cvts (rhp h J) (args ++ caps) = (c, G.rens (look L) args') ∧ c ∧ Pairs 100 L h hc ∧ DSpec E f args' hc A md R2 ∧
      (∀ g h' A', R2 (.ok g h' A') → PairsB L hc h' ∧ GOut Pg fn R ds none fr (putsH h (putsOf L h')) A') ∧ ∀ p h' A', ¬ R2 (.panic p h' A')

theorem leaves_ok {fn : Func} {R : GRes E → Prop} {h : Nat → Ob} {N : Nat} {hl : N ≤ 90000} (h100 : N = 100) : ∀ (df : List GD) {md : Option P} {fr : Nat → G} {h1 : Nat → Ob} {A1 : E.α} {ds : List Deferred} {u : FrameMode} {w' : World} {π' : PM} {ρ' : RM} {S' : Nat → Prop},
    GOut Pg fn R df md fr h1 A1 → St (⟨Own ρ h S, w, π, ρ, fn.ntmps, N, hl⟩ : Cx E) ⟨fr, h1, A1, df⟩ ⟨a.tmps, ds⟩ w' π' ρ' S' → GMode π' md u → LeavesInM (MF none) 0 Pg fn a.tmps (CallPost E π ρ h S w R) ds u w'
  | [], none, fr, h1, A1, ds, u, w', π', ρ', S', hG, H, hm => by
    obtain ⟨hd, v, hv, hp⟩ := Fin.out h100 hG H
    have hd : ds = [] := hd
    have hu : u = .returning := hm
    subst hd hu
    exact ⟨v, hv, hp⟩
  | [], some p, fr, h1, A1, ds, u, w', π', ρ', S', hG, H, hm => by
    have hd : ds = [] := H.defs
    subst hd
    obtain ⟨v, rfl, hv⟩ := hm
    obtain ⟨h', hs, hR⟩ := hG
    subst h100
    exact ⟨π', ρ', h', A1, S', p, v, Behind.sub ⟨H.rel, H.trans, H.step, H.wfh⟩ hs, rfl, hv, hR⟩
  | .mark id :: df, md, fr, h1, A1, ds, u, w', π', ρ', S', hG, H, hm => by
    obtain ⟨g1, g2, g3, g4, g5⟩ := hG
    obtain ⟨d, ds', hds, hd, hrest⟩ := H.defs
    have hds : ds = d :: ds' := hds
    subst hds
    simp only [DRel] at hd
    subst hd
    have hob : ORel π' ρ' E.yv w' id (h1 id) := H.rel.objs id
    rw [g1] at hob
    have hlt := (Array.getElem?_eq_some_iff.1 hob).1
    refine ⟨hm.run, .inl ⟨_, _, rfl, run_takeDeferred hob, ?_⟩⟩
    have hrefl : upd ρ' id (ρ' id) = ρ' := by funext j; unfold upd; split <;> simp_all
    have T := H.rel.turn (w' := w'.putObj (ρ' id).blk (.deferred none)) (π' := π') id (ρ' id) .none (by simp) rfl rfl rfl (fun b _ hne => ⟨World.putObj_heap_other fun e => hne (by show live ρ' id (h1 id) = some b; rw [g1]; simp [live, e]), rfl⟩) (PM.le_refl _)
      (know_put H.rel.know fun o ho => by rw [hob] at ho; cases ho; rfl) (fun _ _ _ => .inl rfl) trivial (fun b hb => by simp [live] at hb)
    rw [hrefl] at T
    have hne : ∀ i, i ≠ id → h1 i ≠ .none → upd h1 id Ob.none i ≠ .none := fun i hi h => by rw [upd_other _ _ hi]; exact h
    refine leaves_ok h100 df g5 (S' := S') ⟨H.size, H.vals, hrest, T.1, H.trans.trans T.2, H.step, fun t i hx => hne i (fun e => ?_) (H.wfr t i hx), fun j i hx => ?_, fun g hg i hx => hne i (fun e => ?_) (H.wfd g (List.mem_cons_of_mem _ hg) i hx)⟩ hm
    · subst e; rw [g2 t] at hx; cases hx
    · simp only [upd] at hx
      split at hx
      · simp [Ob.men] at hx
      exact hne i (fun e => by subst e; rw [g3 j] at hx; cases hx) (H.wfh j i hx)
    subst e; rw [g4 g hg] at hx; cases hx
  | .call f args caps :: df, md, fr, h1, A1, ds, u, w', π', ρ', S', hG, H, hm => by
    obtain ⟨hent, J, c, args', L, hc, R2, hcv, hcc, hp, hspec, hok, hpa⟩ := hG
    obtain ⟨d, ds', hds, hd, hrest⟩ := H.defs
    have hds : ds = d :: ds' := hds
    subst hds
    obtain ⟨vs, us, rfl, hvs, hus⟩ := hd
    have hv := cvts_ok (H.rel.restrict J) (hvs.append hus) (by rw [hcv]; exact hcc)
    rw [hcv] at hv
    subst h100
    have H0 : St (⟨Own ρ h S, w, π, ρ, fn.ntmps, 100, hl⟩ : Cx E) ⟨fr, h1, A1, df⟩ ⟨a.tmps, ds'⟩ w' π' ρ' S' := ⟨H.size, H.vals, hrest, H.rel, H.trans, H.step, H.wfr, H.wfh, fun g hg => H.wfd g (List.mem_cons_of_mem _ hg)⟩
    refine ⟨hm.run, .inr ⟨fun h => by simp [Fence.wide] at h, _, _, f, ⟨vs ++ us⟩, rfl, ?_, fun _ _ => trivial, ?_⟩⟩
    · have := hent (⟨vs ++ us⟩) w'
      simpa [invoke] using this
    refine (hspec π' _ S' w' (vs ++ us) u (H.rel.hand hp) (VRels_ren.1 hv) hm).mono fun e u' w2 ⟨hset, k⟩ => ?_
    cases e with
    | outgrown => exact k.elim
    | panicked ch => obtain ⟨_, _, _, _, _, _, _, _, _, _, hq⟩ := k; exact (hpa _ _ _ hq).elim
    | returned v =>
      obtain ⟨π2, ρ2, h', A', S2, g, hB, _, _, hR2⟩ := k
      obtain ⟨hb, hG2⟩ := hok g h' A' hR2
      exact leaves_ok rfl df hG2 (H0.back hp hb hB) hset

def FinD (Pg : Program) {E : Env Pg} (fn : Func) (R : GRes E → Prop) : GE → Sg E → Prop
  | .normal, σ => GOut Pg fn R σ.df none σ.fr σ.h σ.A
  | .ret, σ => GOut Pg fn R σ.df none σ.fr σ.h σ.A
  | .panic p, σ => GOut Pg fn R σ.df (some p) σ.fr σ.h σ.A
  | _, _ => False

/-- A CONTRACT FROM A BODY, DEFERRED CALLS AND MARKS AND ALL. -/
theorem spec_mkD {f : FuncId} {fn : Func} {c : Code} {args : List G} {h : Nat → Ob} {A : E.α} {R : GRes E → Prop} (hf : Pg.funcs[f]? = some fn) (hb : fn.body = some c) (hN : args.length ≤ fn.ntmps) (w1 : ∀ g ∈ args, ∀ id, g.men id = true → h id ≠ .none)
    (w2 : ∀ j id, (h j).men id = true → h id ≠ .none) (hbody : ∀ C : Cx E, C.N = fn.ntmps → C.lim = 100 → gwp C none c (FinD Pg fn R) ⟨frOf args, h, A, []⟩) : Spec E f args h A R := by
  intro π ρ S w vs hR hv
  refine callsIn_of_wp_marks hf hb trivial ?_
  have hs := St.start (f := f) hR hv hN w1 w2
  refine wpIn_mono ((hbody ⟨Own ρ h S, w, π, ρ, fn.ntmps, 100, by omega⟩ rfl rfl).run _ _ ⟨π, ρ, S, hs⟩) fun e a' w' k => ?_
  cases e with
  | normal => obtain ⟨σ, ⟨π', ρ', S', H⟩, hq⟩ := k; exact leaves_ok rfl σ.df hq H rfl
  | ret => obtain ⟨σ, ⟨π', ρ', S', H⟩, hq⟩ := k; exact leaves_ok rfl σ.df hq H rfl
  | panic ch =>
    obtain ⟨σ, p, v, π', ρ', S', rfl, hp, H, hq⟩ := k
    exact leaves_ok rfl σ.df hq H ⟨v, rfl, hp⟩
  | exit id => obtain ⟨σ, _, hq⟩ := k; exact hq.elim
  | goto l => obtain ⟨σ, _, hq⟩ := k; exact hq.elim
  | outgrown => exact k.elim
end Go.Gh

/- Rules for written-out states: freezing, reading otherwise, deferred calls, yields, loops over functions, leaving. -/
namespace Go.Gh
open Go.RowKit
variable {Pg : Program} {E : Env Pg} {C : Cx E} {r : Option Nat} {ops : Array Oper} {Q : GE → Sg E → Prop} {l l' : List (Nat × G)} {m m' : List (Nat × Ob)} {A : E.α} {df : List GD} {σ σ0 : Sg E} {c : Code} {rest : List Oper} {cp : Prop}

theorem gc_freeze (id n : Nat) (ss : List Sp) {cs cs1 cs2 : List G} {fz : Nat} (ho : mkHp m id = .cells cs fz) (hcv : cvSs (mkHp m) ss (cs.take n) = some (cp, cs1)) (he : cs1 ++ cs.drop n = cs2) (hn : fz ≤ n) (hn2 : n ≤ cs.length) (hc : cp) (h1 : allOne cs1 = true)
    (k : gwp C r c Q (sg l ((id, .cells cs2 n) :: m) A df)) : gwp C r c Q (sg l m A df) :=
  gwp_le (Le.freeze (σ := sg l m A df) ho hn hn2 hcv hc h1) (by subst he; exact k)
theorem gc_conv (t : Nat) (s : Sp) {g : G} (hcv : cvS (mkHp m) s (mkFr l t) = some (cp, g)) (hc : cp) (k : gwp C r c Q (sg ((t, g) :: l) m A df)) : gwp C r c Q (sg l m A df) := gwp_le (Le.conv (σ := sg l m A df) hcv hc) k
theorem go_conv {lst : List Oper} (t : Nat) (s : Sp) {g : G} (hcv : cvS (mkHp m) s (mkFr l t) = some (cp, g)) (hc : cp) (k : gops C r ops Q lst (sg ((t, g) :: l) m A df)) : gops C r ops Q lst (sg l m A df) := gops_le (Le.conv (σ := sg l m A df) hcv hc) k

section
variable {b : Frame} {a : Act} {k : List Item} {cs : List Frame} {w : World} {F : Fence} {n : Nat}
theorem stepR_scope {c : Code} : step Pg (lone (b.atR a (.code (.scope c) :: k)) cs w) = .next (lone (b.atR a (.code c :: .inScope c :: k)) cs w) := step_lone_go (by simp [stepG, stepG.exec, Frame.atR])
theorem stepR_inScope {c : Code} : step Pg (lone (b.atR a (.inScope c :: k)) cs w) = .next (lone (b.atR a k) cs w) := step_lone_go (by simp [stepG, stepG.exec, Frame.atR])
def noGoto (Q : Exit → Act → World → Prop) : Exit → Act → World → Prop
  | .goto _, _, _ => False
  | e, a, w => Q e a w
theorem wpIn_scope {c : Code} {Q : Exit → Act → World → Prop} (h : c.wpIn F n Pg (noGoto Q) a w) : (Code.scope c).wpIn F n Pg Q a w := by
  intro b k cs hro hb hr
  have h0 : (lone (b.atR a (.code (.scope c) :: k)) cs w).fenced Pg F := fenced_calm hb hr rfl
  obtain ⟨e, a₁, w₁, hq, harr⟩ := h b (.inScope c :: k) cs hro hb hr
  cases e with
  | normal => exact ⟨.normal, a₁, w₁, hq, .head h0 stepR_scope (StepsIn.trans harr (.one (fenced_calm hb hr rfl) stepR_inScope))⟩
  | exit id' =>
    have hx : exitTo id' (.inScope c :: k) = exitTo id' k := by simp [exitTo]
    exact ⟨.exit id', a₁, w₁, hq, fun k' hk => .head h0 stepR_scope (harr.1 k' (by rw [hx]; exact hk)),
      fun hr' hk => let ⟨k₁, h1, h2⟩ := harr.2 hr' (by rw [hx]; exact hk); ⟨k₁, h1, .head h0 stepR_scope h2⟩⟩
  | goto l => exact hq.elim
  | ret => exact ⟨_, a₁, w₁, hq, .of_steps (.one h0 stepR_scope) harr⟩
  | panic ch => exact ⟨_, a₁, w₁, hq, .of_steps (.one h0 stepR_scope) harr⟩
  | outgrown => exact ⟨_, a₁, w₁, hq, .of_steps (.one h0 stepR_scope) harr⟩
end
def gnoGoto (Q : GE → Sg E → Prop) : GE → Sg E → Prop
  | .goto _, _ => False
  | e, σ => Q e σ
/-- A scope through which nothing jumps. -/
theorem gwp_scope (h : gwp C r c (gnoGoto Q) σ) : gwp C r (.scope c) Q σ := ⟨fun a w H => wpIn_scope (wpIn_mono (h.run a w H) fun e a' w' k => by
  cases e with
  | goto l => obtain ⟨_, _, hq⟩ := k; exact hq.elim
  | _ => exact k)⟩
theorem gnoGoto_ret (h : Q .ret σ) : gnoGoto Q .ret σ := h
theorem gnoGoto_normal (h : Q .normal σ) : gnoGoto Q .normal σ := h
theorem gnoGoto_exit {i : Nat} (h : Q (.exit i) σ) : gnoGoto Q (.exit i) σ := h
/-- The empty post: what is not asked. -/
theorem go_defer {cl : Call} {d : GD} {ty : TypeId} {pos : String} {af : Array Edge} (hd : gdefer (mkFr l) cl = some d) (k : gops C none ops Q rest (sg l m A (d :: df))) : gops C none ops Q (⟨none, .defer cl, ty, pos, af, none⟩ :: rest) (sg l m A df) :=
  gops_n (effN_defer (o := ⟨none, .defer cl, ty, pos, af, none⟩) rfl (gwant_plain rfl) hd rfl k)

theorem go_yield {cl : Call} {gs : List G} {xs : List P} {J : List Nat} {x : Operand} {t : Nat} {ty : TypeId} {pos : String} {af : Array Edge} (hx : cl.callee = .value x) (hy : gev (mkFr l) x = .abs) (hgs : cl.args.toList.map (gev (mkFr l)) = gs)
    (hcv : cvts (rhp (mkHp m) J) gs = (cp, xs.map .p)) (hc : cp) (hcan : E.Can A xs) (ht : t < C.N) (hk : ∀ b A', E.Y A xs (.b b) A' → gops C r ops Q rest (sg ((t, .p (.bool b)) :: l) m A' df)) (hpa : ∀ p A', E.Y A xs (.p p) A' → Q (.panic p) (sg l m A' df)) :
    gops C r ops Q (⟨some t, .call cl, ty, pos, af, none⟩ :: rest) (sg l m A df) :=
  gops_n (effN_yield (o := ⟨some t, .call cl, ty, pos, af, none⟩) (σ := sg l m A df) rfl hx (gwant_plain rfl) hy hgs hcv hc hcan (fun t' e => by cases e; exact ht) (fun b A' h => hk b A' h) (fun p A' h => hpa p A' h))

theorem set_map_p (l : List P) (i : Nat) (v : P) : (l.map G.p).set i (.p v) = (l.set i v).map G.p := by rw [List.map_set]
theorem set_map_int (k : IntKind) (l : List Int) (i : Nat) (x : Int) : (l.map (P.int k)).set i (.int k x) = (l.set i x).map (P.int k) := by rw [List.map_set]
theorem eqI {a b : Int} : a = b ↔ (a ≤ b ∧ b ≤ a) := by omega
/-! ### Loops over functions -/
theorem mk_ne {i : Nat} : ∀ {m : List (Nat × Ob)}, mkHp m i ≠ .none → i ∈ m.map (·.1)
  | [], h => absurd rfl h
  | (j, o) :: m, h => by
    rw [mkHp_cons] at h
    simp only [List.map_cons, List.mem_cons]
    split at h
    · exact .inl (by assumption)
    exact .inr (mk_ne h)
theorem wf1_of {args : List G} {id : Nat} (h1 : subB (G.idls args) (m.map (·.1)) = true) (h2 : ∀ i ∈ m.map (·.1), mkHp m i ≠ .none) (h : G.mens id args = true) : mkHp m id ≠ .none := by
  simp only [subB, List.all_eq_true, decide_eq_true_eq] at h1
  exact h2 id (h1 id (mens_idl h))
theorem wf2_of {j id : Nat} (h1 : subB (hpIds m (m.map (·.1))) (m.map (·.1)) = true) (h2 : ∀ i ∈ m.map (·.1), mkHp m i ≠ .none) (h : (mkHp m j).men id = true) : mkHp m id ≠ .none := by
  simp only [subB, List.all_eq_true, decide_eq_true_eq] at h1
  refine h2 id (h1 id (hp_ids (mk_ne fun e => ?_) h))
  rw [e] at h; simp [Ob.men] at h
def ltAll (m : List (Nat × Ob)) (N : Nat) : Bool := m.all fun p => decide (p.1 < N)
theorem lt_of_all {N i : Nat} (h : ltAll m N = true) (hi : mkHp m i ≠ .none) : i < N := by
  obtain ⟨p, hp, rfl⟩ := List.mem_map.1 (mk_ne hi)
  simpa using List.all_eq_true.1 h p hp
def neAll (m : List (Nat × Ob)) (I : List Nat) : Prop := ∀ i ∈ I, mkHp m i ≠ .none
/-- What is asked of the objects between rounds. -/
structure WfAt (l : List (Nat × G)) (df : List GD) (lim d : Nat) (m : List (Nat × Ob)) : Prop where
  fr : neAll m (frIds l)
  df : neAll m (dfIds df)
  lt : ltAll m lim = true
  d : mkHp m d = .none

theorem WfAt.wf {L : Lo C} {lim d : Nat} (h : WfAt l df lim d m) (hf : L.fr = mkFr l) (hd : L.df = df) : L.wf (mkHp m) := by
  refine ⟨fun t id hm => h.fr id (fr_ids (hf ▸ hm)), fun g hg id hm => h.df id (df_ids (hd ▸ hg) hm)⟩

/-- A LOOP OVER A FUNCTION whose states are written out: 'Z': what rounds turn; 'mI': the objects between rounds; 'mK': behind a round that left. -/
theorem gc_range {Z : Type} {ps : Array Nat} {g : Operand} {assign body : Code} {f : FuncId} {ga gb aa ab : List G} {ca cb : Prop} (lim d : Nat) (psl : List Nat) (xs : List (List P)) (I : Nat → Z → E.α → Prop) (mI : Z → List (Nat × Ob)) (K : GE → Z → E.α → Prop) (mK : GE → Z → List (Nat × Ob)) (ka kb : List Sp)
    (it : IterSpec Pg f (aa ++ (.abs :: ab)) xs) (hent : Enters Pg f) (hg : grange (mkFr l) g = some (f, ga, gb)) (hca : cvSs (mkHp m) ka ga = some (ca, aa)) (hcb : cvSs (mkHp m) kb gb = some (cb, ab)) (hia : imm.imms aa = true) (hib : imm.imms ab = true) (h1 : ca) (h2 : cb)
    (hps : ps.toList = psl) (hlim : C.lim ≤ lim) (hlim2 : lim ≤ 90000) (hpn : ∀ p ∈ psl, p < C.N) (hlen : ∀ x ∈ xs, x.length = psl.length) (hd : C.lim ≤ d) (wI : ∀ k z A, I k z A → WfAt l df lim d (mI z)) (wK : ∀ e z A, K e z A → WfAt l df lim d (mK e z))
    (h0 : ∃ z, I 0 z A ∧ mI z = m)
    (round : ∀ k z A' x, I k z A' → xs[k]? = some x → ∀ (lp : Nat) (bs : List (Nat × Obj)) (C1 : Cx (E.guard bs)), C1.N = C.N → C1.lim = lim →
      gwp C1 (some lp) assign (fun e σ => e = .normal ∧ ∀ (bs : List (Nat × Obj)) (C2 : Cx (E.guard bs)), C2.N = C.N → C2.lim = lim → (∃ r0, (lp, Obj.loop r0) ∈ bs) → gwp C2 (some lp) body (fun e σ => match e with
        | .normal => ∃ σ3 z, Le C2 σ σ3 ∧ σ3.h = mkHp (mI z) ∧ I (k + 1) z σ3.A
        | .panic _ => False
        | e => ∃ σ3 z, Le C2 σ σ3 ∧ σ3.h = mkHp (mK e z) ∧ K e z σ3.A) ⟨σ.fr, σ.h, σ.A, σ.df⟩) ⟨parFr (mkFr l) psl x, mkHp (mI z), A', []⟩)
    (hK : ∀ e z A', K e z A' → Q e (sg l ((d, .mark) :: mK e z) A' (.mark d :: df))) (hI : ∀ z A', I xs.length z A' → Q .normal (sg l ((d, .mark) :: mI z) A' (.mark d :: df))) :
    gwp C none (.rangeFunc g ps assign body) Q (sg l m A df) := by
  let L : Lo C := { fr := mkFr l, df := df, ps := psl, assign, body, xs, lim, I := fun k h A => ∃ z, h = mkHp (mI z) ∧ I k z A, K := fun e h A => ∃ z, h = mkHp (mK e z) ∧ K e z A }
  have ok : L.Ok := by
    refine ⟨hlim, hlim2, hpn, hlen, ?_, ?_, ?_⟩
    · rintro k h A ⟨z, rfl, hI⟩
      exact ⟨(wI k z A hI).wf (L := L) rfl rfl, fun id => lt_of_all (wI k z A hI).lt⟩
    · rintro e h A ⟨z, rfl, hK⟩
      exact (wK e z A hK).wf (L := L) rfl rfl
    rintro k h A x ⟨z, rfl, hI⟩ hx lp bs C1 hN hL
    refine gwp_mono (round k z A x hI hx lp bs C1 hN hL) fun e σ1 hq => ?_
    obtain ⟨rfl, hq⟩ := hq
    intro bs C2 hN2 hL2 hr
    refine gwp_mono (hq bs C2 hN2 hL2 hr) fun e σ hq => ?_
    cases e with
    | normal => obtain ⟨σ3, z, h1, h2, h3⟩ := hq; exact ⟨σ3, h1, z, h2, h3⟩
    | panic p => exact hq
    | exit i => obtain ⟨σ3, z, h1, h2, h3⟩ := hq; exact ⟨σ3, h1, z, h2, h3⟩
    | goto i => obtain ⟨σ3, z, h1, h2, h3⟩ := hq; exact ⟨σ3, h1, z, h2, h3⟩
    | ret => obtain ⟨σ3, z, h1, h2, h3⟩ := hq; exact ⟨σ3, h1, z, h2, h3⟩
  obtain ⟨z0, hz0, hm0⟩ := h0
  refine gwp_range (d := d) L ok hps hg hent hca hcb hia hib h1 h2 it rfl rfl rfl rfl ⟨z0, by rw [hm0], hz0⟩ hd ?_ ?_
  · rintro e h A ⟨z, rfl, hk⟩
    exact ⟨(wK e z A hk).d, hK e z A hk⟩
  rintro h A ⟨z, rfl, hi⟩
  exact ⟨(wI _ z A hi).d, hI z A hi⟩

/-- A panic that hands objects back. -/
theorem fin_panic_h {fn : Func} {R : GRes E → Prop} {v : P} (I : List Nat) (hm : restrictL I m = m') (h3 : subB (hpIds m I) I = true) (hR : R (.panic v (mkHp m') A)) (hne : ∀ i ∈ I, mkHp m i ≠ .none) : FinQ Pg fn R (.panic v) (sg l m A []) := by
  simp only [subB, List.all_eq_true, decide_eq_true_eq] at h3
  subst hm
  refine ⟨rfl, _, ⟨fun id => ?_, fun j id hx => ?_⟩, hR⟩
  · rw [restrict_at]; split
    · exact .inl rfl
    exact .inr rfl
  rw [restrict_at] at hx ⊢
  split at hx
  · rename_i hj
    have := h3 id (hp_ids hj hx)
    rw [if_pos this]; exact hne id this
  simp [Ob.men] at hx
/-! ### Leaving -/
theorem finD_ret {fn : Func} {R : GRes E → Prop} (h : GOut Pg fn R df none (mkFr l) (mkHp m) A) : FinD Pg fn R .ret (sg l m A df) := h
theorem finD_panic {fn : Func} {R : GRes E → Prop} {p : P} (h : GOut Pg fn R df (some p) (mkFr l) (mkHp m) A) : FinD Pg fn R (.panic p) (sg l m A df) := h
theorem out_nil {fn : Func} {R : GRes E → Prop} (h : Fin Pg fn R (sg l m A [])) : GOut Pg fn R [] none (mkFr l) (mkHp m) A := h
theorem out_panic {fn : Func} {R : GRes E → Prop} {p : P} (h : R (.panic p (mkHp []) A)) : GOut Pg fn R [] (some p) (mkFr l) (mkHp m) A := ⟨mkHp [], sub_nil, h⟩
theorem out_mark {fn : Func} {R : GRes E → Prop} {md : Option P} {d : Nat} {ds : List GD} (h1 : mkHp m d = .mark) (h2 : d ∉ frIds l) (h3 : d ∉ hpIds m (m.map (·.1))) (h4 : d ∉ dfIds ds) (h : GOut Pg fn R ds md (mkFr l) (mkHp ((d, .none) :: m)) A) :
    GOut Pg fn R (.mark d :: ds) md (mkFr l) (mkHp m) A := by
  refine ⟨h1, fun t => ?_, fun j => ?_, fun g hg => ?_, h⟩
  · cases hm : (mkFr l t).men d with
    | false => rfl
    | true => exact absurd (fr_ids hm) h2
  · cases hm : (mkHp m j).men d with
    | false => rfl
    | true =>
      refine absurd (hp_ids (mk_ne fun e => ?_) hm) h3
      rw [e] at hm; simp [Ob.men] at hm
  cases hm : g.men d with
  | false => rfl
  | true => exact absurd (df_ids hg hm) h4
theorem out_call {fn : Func} {R : GRes E → Prop} {md : Option P} {f : FuncId} {args caps gargs : List G} {ds : List GD} {J : List Nat} {L : List (Nat × Nat)} {mc mr ps m2 : List (Nat × Ob)} {g : G} (spec : DSpec E f gargs (mkHp mc) A md fun y => y = .ok g (mkHp mr) A) (hent : Enters Pg f)
    (hcv : cvts (rhp (mkHp m) J) (args ++ caps) = (cp, G.rens (look L) gargs)) (hc : cp) (hp : Pairs 100 L (mkHp m) (mkHp mc)) (hb : PairsB L (mkHp mc) (mkHp mr)) (hps : putsOf L (mkHp mr) = ps) (hm : ps.reverse ++ m = m2)
    (h : GOut Pg fn R ds none (mkFr l) (mkHp m2) A) : GOut Pg fn R (.call f args caps :: ds) md (mkFr l) (mkHp m) A :=
  ⟨hent, J, cp, gargs, L, mkHp mc, _, hcv, hc, hp, spec, fun g' h' A' e => by cases e; exact ⟨hb, by rw [hps, putsH_mk, hm]; exact h⟩, fun p h' A' e => by cases e⟩

/-- A contract over objects that are written out, deferred calls and all. -/
theorem specD_of {f : FuncId} {fn : Func} {args : List G} {R : GRes E → Prop} (hf : Pg.funcs[f]? = some fn) (hb : fn.body = some c) (hN : args.length ≤ fn.ntmps) (w1 : ∀ id, G.mens id args = true → mkHp m id ≠ .none)
    (w2 : ∀ j id, (mkHp m j).men id = true → mkHp m id ≠ .none) (hbody : ∀ C : Cx E, C.N = fn.ntmps → C.lim = 100 → gwp C none c (FinD Pg fn R) (sg (num 0 args) m A [])) : Spec E f args (mkHp m) A R :=
  spec_mkD hf hb hN (fun g hg id hm => w1 id (mens_true.2 ⟨g, hg, hm⟩)) w2 fun C hC hL => by
    have := hbody C hC hL
    rw [sg, ← frOf_num] at this
    exact this
/-- A deferred function that begins with recover. -/
theorem dspec_of {f : FuncId} {fn : Func} {args : List G} {R : GRes E → Prop} {md : Option P} {id : Nat} {o1 : Oper} {t : Nat} (hf : Pg.funcs[f]? = some fn) (c2 : Option Code) (hb : fn.body = some (dcode id ops c2)) (hops : ops.toList = o1 :: rest) (hrc : isRecover o1 = true) (hdst : o1.dst = some t) (ht : t < fn.ntmps)
    (hN : args.length ≤ fn.ntmps) (w1 : ∀ id, G.mens id args = true → mkHp m id ≠ .none) (w2 : ∀ j id, (mkHp m j).men id = true → mkHp m id ≠ .none)
    (hbody : ∀ C : Cx E, C.N = fn.ntmps → C.lim = 100 → gops C none ops (dpost C fn R c2) rest (sg ((t, recG md) :: num 0 args) m A [])) : DSpec E f args (mkHp m) A md R :=
  dspec_core hf hb hops hrc hN (fun t' e => by rw [hdst] at e; cases e; exact ht) (fun g hg id hm => w1 id (mens_true.2 ⟨g, hg, hm⟩)) w2 c2 rfl fun C hC hL => by
    have := hbody C hC hL
    rw [sg, show mkFr ((t, recG md) :: num 0 args) = putF (frOf args) o1.dst (recG md) by rw [hdst, frOf_num]; rfl] at this
    exact this

/-- A call that panics. -/
theorem go_callp {cl : Call} {f : FuncId} {gs gargs : List G} {J : List Nat} {L : List (Nat × Nat)} {mc mr : List (Nat × Ob)} {ks : List Nat} {ad : Option (Nat × Ob)} {t : Nat} {ty : TypeId} {pos : String} {af : Array Edge} {gd : Option (Nat × Bool)} {v : P}
    (spec : Spec E f gargs (mkHp mc) A fun y => y = .panic v (mkHp mr) A) (hent : Enters Pg f) (hw : gwant ops (mkFr l) ⟨some t, .call cl, ty, pos, af, gd⟩ = some true) (hg : gcallee Pg (mkFr l) cl = some (f, gs)) (ha : AdoptOk C.lim (mkHp m) L ad) (hcv : cvtsM (rhp (mkHp m) J) (ad.map (·.1)) ks gs = some (cp, G.rens (look L) gargs)) (hc : cp)
    (hp : Pairs C.lim L (adoptH (mkHp m) ad) (mkHp mc)) (hdis : ∀ d ob, ad = some (d, ob) → d ∉ J) (hb : PairsB L (mkHp mc) (mkHp mr)) (ht : t < C.N)
    (k : Q (.panic v) ⟨mkFr l, putsH (mkHp m) (putsOf L (mkHp mr)), A, df⟩) : gops C r ops Q (⟨some t, .call cl, ty, pos, af, gd⟩ :: rest) (sg l m A df) := by
  refine gops_n (effN_call2 (o := ⟨some t, .call cl, ty, pos, af, gd⟩) (σ := sg l m A df) rfl hw hg hent ha hcv hc hp hdis spec (fun g h' A' e => ?_) (fun p h' A' e => ?_) (fun t' e => by cases e; exact ht))
  · cases e
  cases e; exact ⟨hb, k⟩
/-- One operation of a region in any order, which may have many outcomes: all that is before it is done, all that is behind it waits for it. -/
theorem gany_go {lo : Nat} {o : Oper} (tab : List Nat) (ho : ops[lo]? = some o) (hw : waitsB tab ops.toList 0 = true) (hc : cutB tab lo 1 ops.size = true) (he : ∀ K : Sg E → Prop, (∀ σ, gany C r ops (GPost C Q) (lo + 1) σ → K σ) → EffN C r ops o σ K Q) : gany C r ops (GPost C Q) lo σ :=
  gany_step tab ho hw hc (he _ fun _ h => h)
theorem segK.out {lo : Nat} (h : gany C r ops (GPost C Q) lo σ) : segK C r ops (GPost C Q) lo σ [] σ := ⟨fun _ => h⟩
end Go.Gh

/- Sets of numbers by bits: what operations of the program on them yield. No program in sight. -/
namespace Go.Gh
/-- How many bits are set. -/
def popF : Nat → Nat → Nat
  | 0, _ => 0
  | f + 1, n => n % 2 + popF f (n / 2)
def pop (n : Nat) : Nat := popF 64 n

/-- The sum of bits, as the library has it. -/
def swar (x0 : Int) : Int :=
  let w := IntKind.u64.wrap
  let x1 := w (bitop .and .u64 (x0.fdiv (2 ^ min 1 64)) 6148914691236517205 + bitop .and .u64 x0 6148914691236517205)
  let x2 := w (bitop .and .u64 (x1.fdiv (2 ^ min 2 64)) 3689348814741910323 + bitop .and .u64 x1 3689348814741910323)
  let x3 := bitop .and .u64 (w (x2.fdiv (2 ^ min 4 64) + x2)) 1085102592571150095
  let x4 := w (x3 + x3.fdiv (2 ^ min 8 64))
  let x5 := w (x4 + x4.fdiv (2 ^ min 16 64))
  w (x5 + x5.fdiv (2 ^ min 32 64))
theorem swar_all : ∀ a, a < 64 → ∀ b, b < 64 → (decide (0 ≤ swar ((64 * a + b : Nat) : Int)) && decide (swar ((64 * a + b : Nat) : Int) ≤ 4000000000) && decide (bitop .and .i64 (swar ((64 * a + b : Nat) : Int)) 127 = (pop (64 * a + b) : Int))) = true := by
  decide +kernel
theorem swar_ok (n : Nat) (h : n < 4096) : 0 ≤ swar n ∧ swar n ≤ 4000000000 ∧ bitop .and .i64 (swar n) 127 = (pop n : Int) := by
  have := swar_all (n / 64) (by omega) (n % 64) (by omega)
  rw [show 64 * (n / 64) + n % 64 = n by omega] at this
  simp only [Bool.and_eq_true, decide_eq_true_eq] at this
  exact ⟨this.1.1, this.1.2, this.2⟩
theorem bitop_and_u64 (x y : Nat) (hx : x < 2 ^ 64) (hy : y < 2 ^ 64) : bitop .and .u64 (x : Int) (y : Int) = ((x &&& y : Nat) : Int) := by
  have e1 : (BitVec.ofInt 64 (x : Int)).toNat = x := by rw [BitVec.toNat_ofInt]; omega
  have e2 : (BitVec.ofInt 64 (y : Int)).toNat = y := by rw [BitVec.toNat_ofInt]; omega
  have h : (x &&& y) < 2 ^ 64 := Nat.lt_of_le_of_lt Nat.and_le_left hx
  show IntKind.u64.wrap ((BitVec.ofInt 64 (x : Int) &&& BitVec.ofInt 64 (y : Int)).toNat : Int) = _
  rw [BitVec.toNat_and, e1, e2]
  exact IntWalk.u64_in ((x &&& y : Nat) : Int) (by omega)
theorem bitop_andNot_u64 (x y : Nat) (hx : x < 2 ^ 64) (hy : y < 2 ^ 64) : bitop .andNot .u64 (x : Int) (y : Int) = ((x &&& (2 ^ 64 - 1 - y) : Nat) : Int) := by
  have e1 : (BitVec.ofInt 64 (x : Int)).toNat = x := by rw [BitVec.toNat_ofInt]; omega
  have e2 : (BitVec.ofInt 64 (y : Int)).toNat = y := by rw [BitVec.toNat_ofInt]; omega
  have h : (x &&& (2 ^ 64 - 1 - y)) < 2 ^ 64 := Nat.lt_of_le_of_lt Nat.and_le_left hx
  show IntKind.u64.wrap ((BitVec.ofInt 64 (x : Int) &&& ~~~BitVec.ofInt 64 (y : Int)).toNat : Int) = _
  rw [BitVec.toNat_and, BitVec.toNat_not, e1, e2]
  exact IntWalk.u64_in ((x &&& (2 ^ 64 - 1 - y) : Nat) : Int) (by omega)
theorem bitop_or_i64 (x y : Nat) (hx : x < 2 ^ 62) (hy : y < 2 ^ 62) : bitop .or .i64 (x : Int) (y : Int) = ((x ||| y : Nat) : Int) := by
  have e1 : (BitVec.ofInt 64 (x : Int)).toNat = x := by rw [BitVec.toNat_ofInt]; omega
  have e2 : (BitVec.ofInt 64 (y : Int)).toNat = y := by rw [BitVec.toNat_ofInt]; omega
  have h : (x ||| y) < 2 ^ 62 := Nat.or_lt_two_pow hx hy
  show IntKind.i64.wrap ((BitVec.ofInt 64 (x : Int) ||| BitVec.ofInt 64 (y : Int)).toNat : Int) = _
  rw [BitVec.toNat_or, e1, e2]
  exact IntWalk.i64_in ((x ||| y : Nat) : Int) (by omega)
theorem shl1_u64 (n : Nat) (h : n ≤ 40) : IntKind.u64.wrap (1 * 2 ^ min n 64) = ((2 ^ n : Nat) : Int) := by
  rw [Nat.min_eq_left (by omega), Int.one_mul]
  have h2 : 2 ^ n ≤ 2 ^ 40 := Nat.pow_le_pow_right (by omega) h
  have h0 := Nat.two_pow_pos n
  have : ((2 : Int) ^ n) = ((2 ^ n : Nat) : Int) := by simp
  rw [this]
  exact IntWalk.u64_in _ (by omega)
theorem shl1_i64 (n : Nat) (h : n ≤ 40) : IntKind.i64.wrap (1 * 2 ^ min n 64) = ((2 ^ n : Nat) : Int) := by
  rw [Nat.min_eq_left (by omega), Int.one_mul]
  have h2 : 2 ^ n ≤ 2 ^ 40 := Nat.pow_le_pow_right (by omega) h
  have h0 := Nat.two_pow_pos n
  have : ((2 : Int) ^ n) = ((2 ^ n : Nat) : Int) := by simp
  rw [this]
  exact IntWalk.i64_in _ (by omega)
theorem every_u64 (n : Nat) (h : n ≤ 40) : IntKind.u64.wrap (IntKind.u64.wrap (1 * 2 ^ min n IntKind.u64.bits) - 1) = ((2 ^ n : Nat) : Int) - 1 := by
  show IntKind.u64.wrap (IntKind.u64.wrap (1 * 2 ^ min n 64) - 1) = _
  rw [shl1_u64 n h]
  have h2 : 2 ^ n ≤ 2 ^ 40 := Nat.pow_le_pow_right (by omega) h
  have h0 := Nat.two_pow_pos n
  exact IntWalk.u64_in _ (by omega)
theorem shr_bit (set n : Nat) (hs : set < 2 ^ 64) (hn : n < 64) : decide (bitop .and .u64 ((set : Int).fdiv (2 ^ min n 64)) 1 = 1) = set.testBit n := by
  have e : (set : Int).fdiv (2 ^ min n 64) = ((set / 2 ^ n : Nat) : Int) := by
    rw [Nat.min_eq_left (by omega)]
    have : ((2 : Int) ^ n) = ((2 ^ n : Nat) : Int) := by simp
    rw [this, Int.ofNat_fdiv]
  have h2 : set / 2 ^ n < 2 ^ 64 := Nat.lt_of_le_of_lt (Nat.div_le_self _ _) hs
  rw [e, show (1 : Int) = ((1 : Nat) : Int) from rfl, bitop_and_u64 _ 1 h2 (by omega), Nat.and_one_is_mod, Nat.testBit_eq_decide_div_mod_eq]
  congr 1
  apply propext
  omega

theorem shr_i (w l : Nat) (hl : l ≤ 60) : (w : Int).fdiv (2 ^ min l 64) = ((w / 2 ^ l : Nat) : Int) := by
  rw [Nat.min_eq_left (by omega)]
  have : ((2 : Int) ^ l) = ((2 ^ l : Nat) : Int) := by simp
  rw [this, Int.ofNat_fdiv]
theorem and1_i (v : Nat) (h : v < 2 ^ 62) : bitop .and .i64 (v : Int) 1 = ((v % 2 : Nat) : Int) := by
  have e1 : (BitVec.ofInt 64 (v : Int)).toNat = v := by rw [BitVec.toNat_ofInt]; omega
  show IntKind.i64.wrap ((BitVec.ofInt 64 (v : Int) &&& BitVec.ofInt 64 1).toNat : Int) = _
  rw [BitVec.toNat_and, e1, show (BitVec.ofInt 64 1).toNat = 1 from rfl, Nat.and_one_is_mod]
  exact IntWalk.i64_in ((v % 2 : Nat) : Int) (by omega)
theorem bit_one {w l : Nat} : w / 2 ^ l % 2 = 1 ↔ w.testBit l = true := by
  rw [Nat.testBit_eq_decide_div_mod_eq, decide_eq_true_iff]
theorem bit_zero {w l : Nat} : w / 2 ^ l % 2 = 0 ↔ w.testBit l = false := by
  rw [Nat.testBit_eq_decide_div_mod_eq, decide_eq_false_iff_not]; omega
theorem or_bit {s k i : Nat} : (s ||| 2 ^ k).testBit i = (s.testBit i || decide (k = i)) := by
  rw [Nat.testBit_or, Nat.testBit_two_pow]
theorem lt_bit {s k i : Nat} (h : s < 2 ^ k) (hi : k ≤ i) : s.testBit i = false := Nat.testBit_lt_two_pow (Nat.lt_of_lt_of_le h (Nat.pow_le_pow_right (by omega) hi))
theorem or_lt2 {s k : Nat} (h : s < 2 ^ k) : s ||| 2 ^ k < 2 ^ (k + 1) := Nat.or_lt_two_pow (Nat.lt_trans h (Nat.pow_lt_pow_right (by omega) (by omega))) (Nat.pow_lt_pow_right (by omega) (by omega))
/-- The set of the first ones of which something is so. -/
def setN (q : Nat → Bool) : Nat → Nat
  | 0 => 0
  | k + 1 => if q k = true then setN q k ||| 2 ^ k else setN q k
theorem setN_lt2 (q : Nat → Bool) : ∀ k, setN q k < 2 ^ k
  | 0 => by simp [setN]
  | k + 1 => by
    have := setN_lt2 q k
    simp only [setN]; split
    · exact or_lt2 this
    exact Nat.lt_trans this (Nat.pow_lt_pow_right (by omega) (by omega))
theorem setN_bit (q : Nat → Bool) : ∀ k i, (setN q k).testBit i = (decide (i < k) && q i)
  | 0, i => by simp [setN]
  | k + 1, i => by
    have h := setN_bit q k i
    have hl := lt_bit (setN_lt2 q k) (Nat.le_refl k)
    simp only [setN]
    by_cases hk : q k = true
    · rw [if_pos hk, or_bit, h]
      by_cases e : k = i
      · subst e; simp [hk]
      rw [decide_eq_false e, Bool.or_false]
      congr 1
      exact decide_eq_decide.2 (by omega)
    rw [if_neg hk, h]
    by_cases e : k = i
    · subst e; simp [show q k = false by simpa using hk]
    congr 1
    exact decide_eq_decide.2 (by omega)
theorem sub_zero {x y : Nat} (hx : x < 2 ^ 62) (hy : y < 2 ^ 62) (h : ∀ i, x.testBit i = true → y.testBit i = true) : x &&& (2 ^ 64 - 1 - y) = 0 := by
  apply Nat.eq_of_testBit_eq
  intro i
  rw [Nat.testBit_and, show 2 ^ 64 - 1 - y = 2 ^ 64 - (y + 1) by omega, Nat.testBit_two_pow_sub_succ (by omega), Nat.zero_testBit]
  cases e : x.testBit i with
  | false => rfl
  | true => rw [h i e]; cases decide (i < 64) <;> rfl
theorem shr_b (w l : Nat) (hl : l ≤ 60) : (w : Int).fdiv (2 ^ min l IntKind.i64.bits) = ((w / 2 ^ l : Nat) : Int) := shr_i w l hl
theorem shl_b (n : Nat) (h : n ≤ 40) : IntKind.i64.wrap (1 * 2 ^ min n IntKind.i64.bits) = ((2 ^ n : Nat) : Int) := shl1_i64 n h
/-- A bit. -/
def bitN (w l : Nat) : Int := ((w / 2 ^ l % 2 : Nat) : Int)
theorem and_b (w l : Nat) (hw : w < 2 ^ 62) : bitop .and .i64 ((w / 2 ^ l : Nat) : Int) 1 = bitN w l := and1_i _ (Nat.lt_of_le_of_lt (Nat.div_le_self _ _) hw)
theorem bitN_t {w l : Nat} (h : w.testBit l = true) : bitN w l = 1 := by rw [bitN, bit_one.2 h]; rfl
theorem bitN_f {w l : Nat} (h : w.testBit l = false) : bitN w l = 0 := by rw [bitN, bit_zero.2 h]; rfl
theorem bitN_same {w v l m : Nat} (h : w.testBit l = v.testBit m) : bitN w l = bitN v m := by
  cases e : v.testBit m with
  | true => rw [bitN_t (h.trans e), bitN_t e]
  | false => rw [bitN_f (h.trans e), bitN_f e]
end Go.Gh

/- A nil slice in a cell read as an object of no elements. -/
namespace Go.Gh
open Go.RowKit
variable {Pg : Program} {E : Env Pg} {C : Cx E} {r : Option Nat} {ops : Array Oper} {Q : GE → Sg E → Prop} {l l' : List (Nat × G)} {m m' : List (Nat × Ob)} {A : E.α} {df : List GD} {σ σ0 : Sg E} {c : Code} {rest : List Oper} {cp : Prop}

theorem VRels_setcell {π : PM} {ρ : RM} {y : Value} {cs : List G} {vs : List Value} {j : Nat} {g g' : G} (h : VRels π ρ y cs vs) (hj : cs[j]? = some g) (hg : ∀ v, VRel π ρ y g v → VRel π ρ y g' v) : VRels π ρ y (cs.set j g') vs :=
  VRels.mk (by simp [h.length]) fun i x u hx hu => by
    rw [List.getElem?_set] at hx
    split at hx
    · rename_i e; subst e
      split at hx
      · cases hx
        obtain ⟨u', hu', hr⟩ := h.get j g hj
        rw [hu] at hu'; cases hu'
        exact hg u hr
      cases hx
    obtain ⟨u', hu', hr⟩ := h.get i x hx
    rw [hu] at hu'; cases hu'
    exact hr

theorem Le.adoptCell {id off fz d : Nat} {cs : List G} (e : TypeId) (sz : Nat) (fl : Bool) (ho : σ.h id = .cells cs fz) (hc : cs[off]? = some .nils) (hd : σ.h d = .none) (hd2 : C.lim ≤ d) :
    Le C σ { σ with h := upd (upd σ.h d (.arr e sz [] fl)) id (.cells (cs.set off (.own d 0)) fz) } := fun a w ⟨π, ρ, S, H⟩ => by
  have hdm : ∀ j, (σ.h j).men d = false := fun j => by
    cases hm : (σ.h j).men d with
    | false => rfl
    | true => exact absurd hd (H.wfh j d hm)
  obtain ⟨U1, U2⟩ := H.rel.newNil d hd hdm e sz fl
  have hne : ∀ i, σ.h i ≠ .none → upd σ.h d (Ob.arr e sz [] fl) i ≠ .none := fun i hi => by
    simp only [upd]; split
    · simp
    exact hi
  have H1 : St C { σ with h := upd σ.h d (.arr e sz [] fl) } a w π (upd ρ d ⟨0, .slice none 0 0, 0⟩) S := by
    refine H.putObj U1 U2 (fun j hj => ?_) (fun j hj => ?_) hne (fun j i hm => ?_)
    · have : j ≠ d := fun e => hj (e ▸ hd)
      rw [upd_other _ _ this]; exact .inl rfl
    · rw [upd_other _ _ (by omega)]; exact .inl rfl
    simp only [upd] at hm
    split at hm
    · simp [Ob.men] at hm
    exact hne i (H.wfh j i hm)
  have hid : id ≠ d := fun e => by subst e; rw [ho] at hd; cases hd
  have ho1 : upd σ.h d (Ob.arr e sz [] fl) id = .cells cs fz := by rw [upd_other _ _ hid]; exact ho
  have hob := H1.rel.objs id
  simp only [ho1] at hob
  obtain ⟨vs, et, hw, hv, hone, hf, hn⟩ := hob
  have hnew := VRels_setcell (g' := .own d 0) hv hc fun v hr => by
    simp only [VRel] at hr ⊢
    subst hr
    rw [upd_same]
    exact ⟨Nat.le_refl _, fun _ => rfl⟩
  have hrefl : ∀ (ρ : RM), upd ρ id (ρ id) = ρ := fun ρ => by funext j; unfold upd; split <;> simp_all
  have T := H1.rel.turn (w' := w) (π' := π) id (upd ρ d ⟨0, .slice none 0 0, 0⟩ id) (.cells (cs.set off (.own d 0)) fz) (Nat.le_refl _) rfl rfl rfl (fun b _ _ => ⟨rfl, rfl⟩) (PM.le_refl _) H1.rel.know (fun _ _ _ => .inl rfl) ?_ (fun b hb => ?_)
  · rw [hrefl] at T
    refine ⟨π, _, S, H1.putObj T.1 T.2 (fun _ _ => .inl rfl) (fun _ _ => .inl rfl) (fun i hi => ?_) fun j i hm => ?_⟩
    · simp only [upd] at hi ⊢; split
      · simp
      exact hi
    have hk : ∀ i, σ.h i ≠ .none ∨ i = d → upd (upd σ.h d (Ob.arr e sz [] fl)) id (Ob.cells (cs.set off (.own d 0)) fz) i ≠ .none := fun i hi => by
      simp only [upd]; split
      · simp
      split
      · simp
      exact hi.resolve_right (by assumption)
    replace hm : (upd (upd σ.h d (Ob.arr e sz [] fl)) id (Ob.cells (cs.set off (.own d 0)) fz) j).men i = true := hm
    simp only [upd] at hm
    split at hm
    · simp only [Ob.men] at hm
      obtain ⟨g, hg, hgm⟩ := mens_true.1 hm
      rcases List.mem_or_eq_of_mem_set hg with hg | hg
      · exact hk i (.inl (H.wfh id i (by rw [ho]; exact mens_true.2 ⟨g, hg, hgm⟩)))
      subst hg
      simp only [G.men, beq_iff_eq] at hgm
      exact hk i (.inr hgm.symm)
    split at hm
    · simp [Ob.men] at hm
    exact hk i (.inl (H.wfh j i hm))
  · rw [hrefl]
    refine ⟨vs, et, hw, hnew, fun c hc' => ?_, hf, hn⟩
    rcases List.mem_or_eq_of_mem_set hc' with h | h
    · exact hone c h
    subst h; rfl
  rw [hrefl] at hb
  exact .inl (by simp only [ho1]; exact hb)
theorem gc_adopt (id off d : Nat) (e : TypeId) (sz : Nat) (fl : Bool) {cs cs2 : List G} {fz : Nat} (ho : mkHp m id = .cells cs fz) (hc : cs[off]? = some .nils) (he : cs.set off (.own d 0) = cs2) (hd : mkHp m d = .none) (hd2 : C.lim ≤ d)
    (k : gwp C r c Q (sg l ((id, .cells cs2 fz) :: (d, .arr e sz [] fl) :: m) A df)) : gwp C r c Q (sg l m A df) :=
  gwp_le (Le.adoptCell (σ := sg l m A df) e sz fl ho hc hd hd2) (by subst he; exact k)
theorem dfin_normal {fn : Func} {R : GRes E → Prop} (h : Fin Pg fn R σ) : DFin Pg fn R .normal σ := h
end Go.Gh

/- Is a slice nil?; a part of an array read as a list that nobody turns. -/
namespace Go.Gh
open Go.RowKit
variable {Pg : Program} {E : Env Pg} {C : Cx E} {r : Option Nat} {ops : Array Oper} {Q : GE → Sg E → Prop} {l l' : List (Nat × G)} {m m' : List (Nat × Ob)} {A : E.α} {df : List GD} {σ σ0 : Sg E} {c : Code} {rest : List Oper} {cp : Prop}

theorem list_slice {π : PM} {xs : List P} {v : Value} (h : PRel π (.list xs) v) : ∃ a n c, v = .slice a n c ∧ (a.isNone = true → xs = []) := by
  simp only [PRel] at h
  obtain ⟨a, n, c, e, hl, hc, hr⟩ := h
  refine ⟨a, n, c, e, fun ha => ?_⟩
  rcases hr with ⟨rfl, rfl⟩ | ⟨b, o, rfl, _⟩
  · have : xs.length = 0 := by omega
    exact List.eq_nil_of_length_eq_zero this
  cases ha

/-- 'x == nil' of a slice: true only if it has no elements. -/
theorem effN_nilq {ops : Array Oper} {ty : TypeId} {i : TI} {x z : Operand} {t2 : TypeId} {t : Nat} {pos : String} {af : Array Edge} {gd : Option (Nat × Bool)} {xs : List P} {e : TypeId} {K : Sg E → Prop} {tt : TypeId} (hi : ti Pg tt = some i) (hd : i.desc = .slice e) (hw : gwant ops σ.fr ⟨some t, .binOp .eql tt x z t2, ty, pos, af, gd⟩ = some true)
    (hx : gev σ.fr x = .p (.list xs)) (hz : z = .const (.slice none 0 0)) (ht : t < C.N) (hk : ∀ b : Bool, (b = true → xs = []) → K (σ.put (some t) (.p (.bool b)) [])) : EffN C r ops ⟨some t, .binOp .eql tt x z t2, ty, pos, af, gd⟩ σ K Q := by
  intro a w ⟨π, ρ, S, H⟩ K' hK
  have hwt := gwant_ok H hw
  unfold wpO
  rw [hwt]
  simp only [if_true]
  refine ⟨fun _ _ => trivial, ?_⟩
  have hv := gev_ok H x
  rw [hx] at hv
  simp only [VRel] at hv
  obtain ⟨ad, n, cc, e1, hnil⟩ := list_slice hv
  obtain ⟨info, zz, hund, _⟩ := ti_spec hi
  rw [hd] at hund
  have hsem : Oper.semAt (MF r).round a.eval ⟨some t, .binOp .eql tt x z t2, ty, pos, af, gd⟩ = execOp a.eval ⟨some t, .binOp .eql tt x z t2, ty, pos, af, gd⟩ := by
    cases r with
    | none => rfl
    | some l => exact Oper.semAt_some l _ _ fun cl hcl => by cases hcl
  subst hz
  have hrun : (execOp a.eval ⟨some t, .binOp .eql tt x (.const (.slice none 0 0)) t2, ty, pos, af, gd⟩).run Pg w = .ok (.value (.bool ad.isNone)) w := by
    have h2 := Go.run_equal_slice_nil (P := Pg) w tt e ad n cc hund
    have hev : a.eval (.const (.slice none 0 0)) = .slice none 0 0 := rfl
    simp [execOp, e1, hev, binOp, eqGuard, h2]
  rw [hsem, hrun]
  refine hK _ _ _ (hk ad.isNone hnil) ⟨π, ρ, S, ?_⟩
  exact H.putReg (dst := some t) (fun t' e => by cases e; exact ht) (VRel.bool _) fun id h => by simp [G.men] at h
theorem go_nilq {tt : TypeId} {i : TI} {x z : Operand} {t2 ty : TypeId} {t : Nat} {pos : String} {af : Array Edge} {xs : List P} {e : TypeId} (hi : ti Pg tt = some i) (hd : i.desc = .slice e) (hx : gev (mkFr l) x = .p (.list xs)) (hz : z = .const (.slice none 0 0)) (ht : t < C.N)
    (k : ∀ b : Bool, (b = true → xs = []) → gops C r ops Q rest (sg ((t, .p (.bool b)) :: l) m A df)) : gops C r ops Q (⟨some t, .binOp .eql tt x z t2, ty, pos, af, none⟩ :: rest) (sg l m A df) :=
  gops_n (effN_nilq (σ := sg l m A df) hi hd (gwant_plain rfl) hx hz ht k)

theorem cvSs_k {h : Nat → Ob} : ∀ (gs : List G), ∃ c : Prop, cvSs h (List.replicate gs.length .k) gs = some (c, gs) ∧ c
  | [] => ⟨True, rfl, trivial⟩
  | g :: gs => by
    obtain ⟨c, h1, h2⟩ := cvSs_k (h := h) gs
    exact ⟨True ∧ c, by simp only [List.length_cons, List.replicate_succ, cvSs, cvS, h1], trivial, h2⟩
theorem Le.freezeK {id fz n : Nat} {cs : List G} (ho : σ.h id = .cells cs fz) (hn : fz ≤ n) (hn2 : n ≤ cs.length) (h1 : allOne (cs.take n) = true) : Le C σ { σ with h := upd σ.h id (.cells cs n) } := by
  obtain ⟨c, e, hc⟩ := cvSs_k (h := σ.h) (cs.take n)
  have := Le.freeze (C := C) ho hn hn2 e hc h1
  rwa [List.take_append_drop] at this
theorem one_cells {p : P} (h : p.one = true) : p.cells = [p] := by cases p <;> simp [P.one] at h <;> rfl
theorem flat_one : ∀ {ps : List P}, (∀ p ∈ ps, p.one = true) → ps.flatMap P.cells = ps
  | [], _ => rfl
  | p :: ps, h => by rw [List.flatMap_cons, one_cells (h p (by simp)), flat_one fun q hq => h q (by simp [hq])]; rfl
end Go.Gh

/- Regions in any order, one of whose operations looks at an object that another one, before or behind it, puts anew, without a difference to the first. -/
namespace Go.Gh
open Go.RowKit
variable {Pg : Program} {E : Env Pg} {C : Cx E} {σ σ0 : Sg E} {a : Act} {w : World} {π : PM} {ρ : RM} {S : Nat → Prop}

/-- Another state that agrees on what an operation looks at, but for objects that may be others as well. -/
def AgreeJ (ops : Array Oper) (o : Oper) (I : List Nat) (J : List (Nat × Ob)) (σ σ' : Sg E) : Prop :=
  Agree ops o I σ σ' ∧ ∀ id ∈ J.map (·.1), σ'.h id = σ.h id ∨ (id, σ'.h id) ∈ J
def EffJ (C : Cx E) (r : Option Nat) (ops : Array Oper) (o : Oper) (σ : Sg E) (I : List Nat) (J : List (Nat × Ob)) (g : G) (ps : List (Nat × Ob)) : Prop :=
  ∀ σ', AgreeJ ops o I J σ σ' → ∀ a w, Holds C σ' a w → ∀ (K : Act → World → Prop) Q, (∀ a' w', Holds C (σ'.put o.dst g ps) a' w' → K a' w') → wpO r Pg ops Q o K a w
theorem Eff.toJ {r : Option Nat} {ops : Array Oper} {o : Oper} {I : List Nat} {J : List (Nat × Ob)} {g : G} {ps : List (Nat × Ob)} (h : Eff C r ops o σ I g ps) : EffJ C r ops o σ I J g ps := fun σ' hA => h σ' hA.1
theorem putsH_or {h : Nat → Ob} : ∀ (ps : List (Nat × Ob)) (id : Nat), putsH h ps id = h id ∨ ∃ p ∈ ps, p.1 = id ∧ putsH h ps id = p.2
  | [], id => .inl rfl
  | (i, ob) :: ps, id => by
    rw [putsH]
    rcases putsH_or (h := upd h i ob) ps id with e | ⟨p, hp, e1, e2⟩
    · by_cases hi : i = id
      · subst hi
        exact .inr ⟨(i, ob), by simp, rfl, by rw [e, upd_same]⟩
      exact .inl (by rw [e, upd_other h ob (Ne.symm hi)])
    exact .inr ⟨p, by simp [hp], e1, e2⟩
section
variable {R : Nat → Rec} {lo : Nat} {X : Nat → Bool} {Jq : List (Nat × Ob)}
theorem segSt_hJ {q id : Nat} (hX : X (lo + q) = false) (h1 : ∀ m, m < q → X (lo + m) = false → ∀ p ∈ (R (lo + m)).ps, p.1 ≠ id) {len : Nat} (h2 : ∀ k, q < k → k < len → X (lo + k) = true → ∀ p ∈ (R (lo + k)).ps, p.1 = id → p ∈ Jq) :
    ∀ m, q ≤ m ∧ m ≤ len → (segSt R lo σ X m).h id = (segSt R lo σ (fun _ => true) q).h id ∨ (id, (segSt R lo σ X m).h id) ∈ Jq
  | 0, h => by
    have : q = 0 := by omega
    subst this; exact .inl rfl
  | m + 1, h => by
    by_cases e : m + 1 = q
    · subst e
      left
      have := segSt_h (R := R) (σ := σ) (id := id) hX h1 (m + 1) fun k hk hkm => by omega
      rwa [Nat.min_self] at this
    have ih := segSt_hJ hX h1 h2 m ⟨by omega, by omega⟩
    simp only [segSt]
    split
    · rename_i hx
      have hmq : m ≠ q := fun e2 => by subst e2; rw [hX] at hx; cases hx
      rcases putsH_or (h := (segSt R lo σ X m).h) (R (lo + m)).ps id with e3 | ⟨p, hp, e3, e4⟩
      · rw [show ((segSt R lo σ X m).put (R (lo + m)).dst (R (lo + m)).g (R (lo + m)).ps).h id = (segSt R lo σ X m).h id from e3]
        exact ih
      right
      rw [show ((segSt R lo σ X m).put (R (lo + m)).dst (R (lo + m)).g (R (lo + m)).ps).h id = p.2 from e4]
      have := h2 m (by omega) (by omega) hx p hp e3
      rwa [← e3]
    exact ih
end

theorem gany_segJ {jq : Nat} {Jq : List (Nat × Ob)} {r : Option Nat} {ops : Array Oper} {Q : Exit → Act → World → Prop} {lo len : Nat} {R : Nat → Rec} {B : Nat → Nat → Prop} (hlen : lo + len ≤ ops.size) (hB : Waits ops B)
    (hcut : ∀ j, lo + len ≤ j → j < ops.size → ∀ k, k < len → B (lo + k) j)
    (hfree : ∀ i j, i < j → j < len → B (lo + i) (lo + j) ∨ Free ops R (lo + i) (lo + j))
    (hrun : ∀ m, m < len → ∃ o, ops[lo + m]? = some o ∧ (R (lo + m)).dst = o.dst ∧ EffJ C r ops o (segSt R lo σ (fun _ => true) m) (R (lo + m)).I (if m = jq then Jq else []) (R (lo + m)).g (R (lo + m)).ps)
    (hj0 : ∀ m, m < jq → m < len → B (lo + m) (lo + jq) ∨ ∀ p ∈ (R (lo + m)).ps, p.1 ∉ Jq.map (·.1))
    (hj1 : ∀ m, jq < m → m < len → B (lo + jq) (lo + m) ∨ ∀ p ∈ (R (lo + m)).ps, p.1 ∈ Jq.map (·.1) → p ∈ Jq)
    (hK : gany C r ops Q (lo + len) (segSt R lo σ (fun _ => true) len)) : gany C r ops Q lo σ := by
  have main : ∀ (c : Nat) (listed : Array Bool) (a : Act) (w : World), listed.size = ops.size → cnt (lst listed) lo len = c → (∀ k, k < lo → lst listed k = true) → (∀ k, lo + len ≤ k → k < ops.size → lst listed k = false) →
      (∀ j o, ops[j]? = some o → lo ≤ j → j < lo + len → lst listed j = true → ∀ e ∈ o.after, Region.binds .any e = true → lst listed e.on = true) →
      Holds C (segSt R lo σ (lst listed) len) a w → wpAnyIn (MF r) 0 Pg .any ops Q (ops.size - (lo + len) + c) listed a w := by
    intro c
    induction c with
    | zero =>
      intro listed a w hsz hc hlow hhi hdc H
      have hall := cnt_zero hc
      have hst : ∀ m, m ≤ len → segSt R lo σ (lst listed) m = segSt R lo σ (fun _ => true) m := fun m => by
        induction m with
        | zero => intro _; rfl
        | succ m ih =>
          intro hm
          simp only [segSt, hall m (by omega), ih (by omega)]
      rw [hst len (Nat.le_refl _)] at H
      refine hK.run listed a w ⟨hsz, fun k hk => ?_⟩ H
      by_cases h1 : k < lo
      · rw [hlow k h1]; simp; omega
      by_cases h2 : k < lo + len
      · have := hall (k - lo) (by omega)
        rw [show lo + (k - lo) = k by omega] at this
        rw [this]; simp [h2]
      rw [hhi k (by omega) hk]; simp [h2]
    | succ c ih =>
      intro listed a w hsz hc hlow hhi hdc H
      -- the operations that surely come before one that may be next are done
      have hB' : ∀ j, (∀ o, ops[j]? = some o → ∀ e ∈ o.after, Region.binds .any e = true → lst listed e.on = true) → ∀ i, lo ≤ i → B i j → lst listed i = true := by
        intro j
        induction j using Nat.strongRecOn with
        | _ j ihj =>
          intro hj i hi hb
          obtain ⟨o, ho, e, he, hbe, hcase⟩ := hB.up i j hb
          have hon := hj o ho e he hbe
          rcases hcase with rfl | hb'
          · exact hon
          have hlt := hB.low j o ho e he hbe
          refine ihj e.on hlt (fun o' ho' e' he' hbe' => ?_) i hi hb'
          by_cases h1 : e.on < lo
          · have := hB.low _ _ ho' _ he' hbe'
            exact hlow _ (by omega)
          by_cases h2 : e.on < lo + len
          · exact hdc _ _ ho' (by omega) h2 hon _ he' hbe'
          have hlt2 : e.on < ops.size := (Array.getElem?_eq_some_iff.1 ho').1
          rw [hhi _ (by omega) hlt2] at hon; cases hon
      obtain ⟨q0, hq0, hx0, hfirst⟩ := cnt_first (X := lst listed) (lo := lo) (m := len) (by omega)
      have hne : Region.ready .any ops listed ≠ [] := by
        intro hnil
        have hmem : lo + q0 ∈ Region.ready .any ops listed := by
          obtain ⟨o, ho⟩ : ∃ o, ops[lo + q0]? = some o := ⟨ops[lo + q0], by rw [Array.getElem?_eq_getElem]⟩
          refine mem_ready.2 ⟨hx0, o, ho, fun e he hbe => ?_⟩
          have hlt := hB.low _ _ ho e he hbe
          have hl : lst listed e.on = true := by
            by_cases h1 : e.on < lo
            · exact hlow _ h1
            have := hfirst (e.on - lo) (by omega)
            rwa [show lo + (e.on - lo) = e.on by omega] at this
          have hsz' : e.on < listed.size := by omega
          simp only [lst, Array.getD_eq_getD_getElem?, Array.getElem?_eq_getElem hsz', Option.getD_some] at hl ⊢
          exact hl
        rw [hnil] at hmem; cases hmem
      rw [show ops.size - (lo + len) + (c + 1) = (ops.size - (lo + len) + c) + 1 by omega]
      refine ⟨fun h0 => absurd h0 hne, fun i hi => ?_⟩
      obtain ⟨hun, o, ho, hall⟩ := mem_ready.1 hi
      have hilt : i < ops.size := (Array.getElem?_eq_some_iff.1 ho).1
      have hallt : ∀ e ∈ o.after, Region.binds .any e = true → lst listed e.on = true := fun e he hbe => by
        have h1 := hall e he hbe
        have hlt := hB.low _ _ ho e he hbe
        have hsz' : e.on < listed.size := by omega
        simp only [lst, Array.getD_eq_getD_getElem?, Array.getElem?_eq_getElem hsz', Option.getD_some] at h1 ⊢
        exact h1
      have hilo : lo ≤ i := by
        apply Nat.le_of_not_lt; intro h1
        rw [show listed.getD i true = lst listed i from rfl, hlow i h1] at hun; cases hun
      have hihi : i < lo + len := by
        apply Nat.lt_of_not_le; intro h1
        have := hB' i (fun o' ho' => by rw [ho] at ho'; cases ho'; exact hallt) (lo + q0) (by omega) (hcut i h1 hilt q0 hq0)
        rw [hx0] at this; cases this
      obtain ⟨q, rfl⟩ : ∃ q, i = lo + q := ⟨i - lo, by omega⟩
      have hqlen : q < len := by omega
      have hXq : lst listed (lo + q) = false := hun
      -- who is apart from whom
      have fr1 : ∀ m, m < q → lst listed (lo + m) = false → Free ops R (lo + m) (lo + q) := fun m hm hx => by
        rcases hfree m q hm hqlen with hb | hf
        · have := hB' (lo + q) (fun o' ho' => by rw [ho] at ho'; cases ho'; exact hallt) (lo + m) (by omega) hb
          rw [hx] at this; cases this
        exact hf
      have fr2 : ∀ k, q < k → k < len → lst listed (lo + k) = true → Free ops R (lo + q) (lo + k) := fun k hk hkl hx => by
        rcases hfree q k hk hkl with hb | hf
        · have := hB' (lo + k) (fun o' ho' => hdc _ o' ho' (by omega) (by omega) hx) (lo + q) (by omega) hb
          rw [hXq] at this; cases this
        exact hf
      obtain ⟨o', ho', hdst, heff⟩ := hrun q hqlen
      rw [ho] at ho'; cases ho'
      have hmin : min len q = q := by omega
      have hag : Agree ops o (R (lo + q)).I (segSt R lo σ (fun _ => true) q) (segSt R lo σ (lst listed) len) := by
        refine ⟨by rw [(segSt_A len).1, (segSt_A q).1], by rw [(segSt_A len).2, (segSt_A q).2], fun t ht => ?_, fun id hid => ?_⟩
        · have := segSt_fr (R := R) (σ := σ) (t := t) hXq (fun m hm hx => (fr1 m hm hx).r1 o ho t ht) len (fun k hk hkl hx => (fr2 k hk hkl hx).r2 o ho t ht)
          rwa [hmin] at this
        have := segSt_h (R := R) (σ := σ) (id := id) hXq (fun m hm hx p hp e => (fr1 m hm hx).o1 p hp (e ▸ hid)) len (fun k hk hkl hx p hp e => (fr2 k hk hkl hx).o2 p hp (e ▸ hid))
        rwa [hmin] at this
      have hagJ : AgreeJ ops o (R (lo + q)).I (if q = jq then Jq else []) (segSt R lo σ (fun _ => true) q) (segSt R lo σ (lst listed) len) := by
        refine ⟨hag, fun id hid => ?_⟩
        by_cases e : q = jq
        · subst e
          rw [if_pos rfl] at hid ⊢
          refine segSt_hJ (len := len) hXq (fun m hm hx p hp e => ?_) (fun k hk hkl hx p hp e => ?_) len ⟨by omega, Nat.le_refl _⟩
          · rcases hj0 m hm (by omega) with hb | hf
            · have := hB' (lo + q) (fun o' ho' => by rw [ho] at ho'; cases ho'; exact hallt) (lo + m) (by omega) hb
              rw [hx] at this; cases this
            exact hf p hp (e ▸ hid)
          rcases hj1 k hk hkl with hb | hf
          · have := hB' (lo + k) (fun o' ho' => hdc _ o' ho' (by omega) (by omega) hx) (lo + q) (by omega) hb
            rw [hXq] at this; cases this
          exact hf p hp (e ▸ hid)
        rw [if_neg e] at hid; simp at hid
      have hw := heff _ hagJ a w H (wpAnyIn (MF r) 0 Pg .any ops Q (ops.size - (lo + len) + c) (listed.setIfInBounds (lo + q) true)) Q fun a' w' H' => ?_
      · unfold wpOpIn
        rw [ho]
        exact hw
      have hsz2 : lo + q < listed.size := by omega
      have hl' : ∀ k, lst (listed.setIfInBounds (lo + q) true) k = if k = lo + q then true else lst listed k := fun k => getD_set hsz2
      have hX' : lst (listed.setIfInBounds (lo + q) true) (lo + q) = true := by rw [hl']; simp
      have hsame : ∀ m, m ≠ q → lst (listed.setIfInBounds (lo + q) true) (lo + m) = lst listed (lo + m) := fun m hm => by
        rw [hl', if_neg (by omega)]
      refine ih _ a' w' (by simpa using hsz) ?_ (fun k hk => ?_) (fun k hk hk2 => ?_) (fun j oj hoj h1 h2 hx e he hbe => ?_) ?_
      · have := (cnt_upd hXq hX' hsame len).2 hqlen
        omega
      · rw [hl', if_neg (by omega)]; exact hlow k hk
      · rw [hl', if_neg (by omega)]; exact hhi k hk hk2
      · rw [hl']
        split
        · rfl
        rw [hl'] at hx
        split at hx
        · rename_i e1
          subst e1
          rw [ho] at hoj; cases hoj
          exact hallt e he hbe
        exact hdc j oj hoj h1 h2 hx e he hbe
      rw [(segSt_list (ops := ops) (R := R) (σ := σ) hXq hX' hsame len fr2).2 hqlen, hdst]
      exact H'
  refine ⟨fun listed a w ⟨hsz, hl⟩ H => ?_⟩
  have hun : ∀ m, m ≤ len → cnt (lst listed) lo m = m ∧ segSt R lo σ (lst listed) m = σ := fun m => by
    induction m with
    | zero => intro _; exact ⟨rfl, rfl⟩
    | succ m ih =>
      intro hm
      obtain ⟨i1, i2⟩ := ih (by omega)
      have hx : lst listed (lo + m) = false := by rw [hl _ (by omega)]; simp
      simp only [cnt, segSt, hx, i1, i2, Bool.false_eq_true, if_false, and_self]
  have := main len listed a w hsz (hun len (Nat.le_refl _)).1 (fun k hk => by rw [hl k (by omega)]; simp [hk]) (fun k hk hk2 => by rw [hl k hk2]; simp; omega)
    (fun j o ho h1 h2 hx => by rw [hl j (by omega)] at hx; simp at hx; omega) (by rw [(hun len (Nat.le_refl _)).2]; exact H)
  rwa [show ops.size - (lo + len) + len = ops.size - lo by omega] at this

/-! The region, some of it worked out -/
section
variable {r : Option Nat} {ops : Array Oper} {QE : Exit → Act → World → Prop} {lo q0 : Nat} {Jq : List (Nat × Ob)} {Aft : List Nat} {ids : List (List Nat × List Nat)}
structure segJ (C : Cx E) (r : Option Nat) (ops : Array Oper) (Q : Exit → Act → World → Prop) (lo : Nat) (σ0 : Sg E) (q0 : Nat) (Jq : List (Nat × Ob)) (Aft : List Nat) (ids : List (List Nat × List Nat)) (σ : Sg E) : Prop where
  run : (∃ R : Nat → Rec, (∀ m x, ids[m]? = some x → (R (lo + m)).I = x.1 ∧ (R (lo + m)).ps.map (·.1) = x.2) ∧
    (∀ m, m < ids.length → ∃ o, ops[lo + m]? = some o ∧ (R (lo + m)).dst = o.dst ∧ EffJ C r ops o (segSt R lo σ0 (fun _ => true) m) (R (lo + m)).I (if m = q0 then Jq else []) (R (lo + m)).g (R (lo + m)).ps) ∧
    (∀ m, m < ids.length → m ∈ Aft ∨ ∀ p ∈ (R (lo + m)).ps, p.1 ∈ Jq.map (·.1) → q0 < m ∧ p ∈ Jq) ∧
    segSt R lo σ0 (fun _ => true) ids.length = σ) → gany C r ops Q lo σ0
theorem segJ.start (q0 : Nat) (Jq : List (Nat × Ob)) (Aft : List Nat) (h : segJ C r ops QE lo σ q0 Jq Aft [] σ) : gany C r ops QE lo σ :=
  h.run ⟨fun _ => ⟨none, .undef, [], []⟩, fun m x hx => by simp at hx, fun m hm => by simp at hm, fun m hm => by simp at hm, rfl⟩
theorem segJ.stepJ {o : Oper} {I : List Nat} {g : G} {ps : List (Nat × Ob)} {n : Nat} {pi : List Nat} (hn : ids.length = n) (ho : ops[lo + n]? = some o) (he : EffJ C r ops o σ I (if n = q0 then Jq else []) g ps) (hps : ps.map (·.1) = pi)
    (hj : n ∈ Aft ∨ ∀ p ∈ ps, p.1 ∈ Jq.map (·.1) → q0 < n ∧ p ∈ Jq) (h : segJ C r ops QE lo σ0 q0 Jq Aft (ids ++ [(I, pi)]) (σ.put o.dst g ps)) :
    segJ C r ops QE lo σ0 q0 Jq Aft ids σ := ⟨fun ⟨R, h1, h2, hA, h3⟩ => by
  subst hn
  subst hps
  let R' : Nat → Rec := fun k => if k = lo + ids.length then ⟨o.dst, g, ps, I⟩ else R k
  have hR : ∀ k, k < ids.length → R (lo + k) = R' (lo + k) := fun k hk => by simp only [R']; rw [if_neg (by omega)]
  have hRn : R' (lo + ids.length) = ⟨o.dst, g, ps, I⟩ := by simp only [R', if_true]
  have hst : ∀ m, m ≤ ids.length → segSt R' lo σ0 (fun _ => true) m = segSt R lo σ0 (fun _ => true) m := fun m hm => (segSt_congr m fun k hk => hR k (by omega)).symm
  refine h.run ⟨R', fun m x hx => ?_, fun m hm => ?_, fun m hm => ?_, ?_⟩
  · by_cases hm : m < ids.length
    · rw [List.getElem?_append_left hm] at hx
      rw [← hR m hm]
      exact h1 m x hx
    rw [List.getElem?_append_right (by omega)] at hx
    have : m = ids.length := by
      have := (List.getElem?_eq_some_iff.1 hx).1
      simp at this; omega
    subst this
    simp at hx; subst hx
    rw [hRn]
    exact ⟨rfl, rfl⟩
  · by_cases hm' : m < ids.length
    · rw [← hR m hm', hst m (by omega)]
      exact h2 m hm'
    have : m = ids.length := by simp at hm; omega
    subst this
    rw [hRn, hst _ (Nat.le_refl _), h3]
    exact ⟨o, ho, rfl, he⟩
  · by_cases hm' : m < ids.length
    · rw [← hR m hm']; exact hA m hm'
    have : m = ids.length := by simp at hm; omega
    subst this
    rw [hRn]; exact hj
  simp only [List.length_append, List.length_cons, List.length_nil, segSt, if_true, hRn, hst _ (Nat.le_refl _), h3]⟩
theorem segJ.step {o : Oper} {I : List Nat} {g : G} {ps : List (Nat × Ob)} {n : Nat} {pi : List Nat} (hn : ids.length = n) (ho : ops[lo + n]? = some o) (he : Eff C r ops o σ I g ps) (hps : ps.map (·.1) = pi)
    (hj : n ∈ Aft ∨ ∀ p ∈ ps, p.1 ∈ Jq.map (·.1) → q0 < n ∧ p ∈ Jq) (h : segJ C r ops QE lo σ0 q0 Jq Aft (ids ++ [(I, pi)]) (σ.put o.dst g ps)) :
    segJ C r ops QE lo σ0 q0 Jq Aft ids σ := segJ.stepJ hn ho he.toJ hps hj h
theorem segJ.stop {n : Nat} (tab : List Nat) (hn : ids.length = n) (hsz : lo + n ≤ ops.size) (hw : waitsB tab ops.toList 0 = true) (hc : cutB tab lo n ops.size = true) (hf : freeB tab ops.toList lo ids = true) (hq : q0 < n) (haf : Aft.all (fun m => (decide (m < q0) && (tab.getD (lo + q0) 0).testBit (lo + m)) || (decide (q0 < m) && (tab.getD (lo + m) 0).testBit (lo + q0))) = true) (h : gany C r ops QE (lo + n) σ) : segJ C r ops QE lo σ0 q0 Jq Aft ids σ :=
  ⟨fun ⟨R, h1, h2, hA, h3⟩ => by
  subst hn
  refine gany_segJ (len := ids.length) (R := R) (jq := q0) (Jq := Jq) hsz (Waits.of hw) (fun j hj hj2 k hk => ?_) (fun i j hij hj => ?_) h2 (fun m hm hml => ?_) (fun m hm hml => ?_) (by rw [h3]; exact h)
  · simp only [cutB, List.all_eq_true, List.mem_range] at hc
    have := hc (j - (lo + ids.length)) (by omega) k hk
    rw [show lo + ids.length + (j - (lo + ids.length)) = j by omega] at this
    exact ⟨hj2, this⟩
  · simp only [freeB, List.all_eq_true, List.mem_range, Bool.or_eq_true] at hf
    rcases hf j hj i hij with hb | hb
    · exact .inl ⟨by omega, hb⟩
    right
    obtain ⟨oi, ho1, e1, _⟩ := h2 i (by omega)
    obtain ⟨oj, ho2, e2, _⟩ := h2 j hj
    have hi' : ids[i]? = some ids[i] := List.getElem?_eq_getElem (by omega)
    have hj' : ids[j]? = some ids[j] := List.getElem?_eq_getElem hj
    obtain ⟨a1, a2⟩ := h1 i _ hi'
    obtain ⟨b1, b2⟩ := h1 j _ hj'
    have ho1' : ops.toList[lo + i]? = some oi := by simpa using ho1
    have ho2' : ops.toList[lo + j]? = some oj := by simpa using ho2
    rw [ho1', ho2', hi', hj'] at hb
    simp only [apartB, Bool.and_eq_true, regsOf_eq, List.all_eq_true] at hb
    obtain ⟨⟨⟨c1, c2⟩, c3⟩, c4⟩ := hb
    refine ⟨fun o ho t ht e => ?_, fun o ho t ht e => ?_, fun t ht e => ?_, fun p hp hx => ?_, fun p hp hx => ?_, fun p hp q hq e => ?_⟩
    · rw [ho2] at ho; cases ho
      rw [← e1, e] at c1
      simp at c1
      exact c1.1 ht
    · rw [ho1] at ho; cases ho
      rw [← e2, e] at c2
      simp at c2
      exact c2 ht
    · rw [← e1, ht] at c1
      rw [← e2, e] at c1
      simp at c1
    · have := c3 p.1 (by rw [← a2]; exact List.mem_map.2 ⟨p, hp, rfl⟩)
      rw [b1] at hx
      simp at this
      exact this.1 hx
    · have := c4 p.1 (by rw [← b2]; exact List.mem_map.2 ⟨p, hp, rfl⟩)
      rw [a1] at hx
      simp at this
      exact this hx
    have := c3 p.1 (by rw [← a2]; exact List.mem_map.2 ⟨p, hp, rfl⟩)
    simp at this
    refine this.2 ?_
    rw [← b2, e]
    exact List.mem_map.2 ⟨q, hq, rfl⟩
  · rcases hA m hml with ha | ha
    · have := List.all_eq_true.1 haf m ha
      simp only [Bool.or_eq_true, Bool.and_eq_true, decide_eq_true_eq] at this
      rcases this with ⟨_, hb⟩ | ⟨hb, _⟩
      · exact .inl ⟨by omega, hb⟩
      omega
    exact .inr fun p hp hx => by have := (ha p hp hx).1; omega
  rcases hA m hml with ha | ha
  · have := List.all_eq_true.1 haf m ha
    simp only [Bool.or_eq_true, Bool.and_eq_true, decide_eq_true_eq] at this
    rcases this with ⟨hb, _⟩ | ⟨_, hb⟩
    · omega
    exact .inl ⟨by omega, hb⟩
  exact .inr fun p hp hx => (ha p hp hx).2⟩
end
end Go.Gh

/- A look at a map, whatever another operation made of its entry. -/
namespace Go.Gh
open Go.RowKit
variable {Pg : Program} {E : Env Pg} {C : Cx E} {σ : Sg E}
theorem effJ_lookup {r : Option Nat} {ops : Array Oper} {o : Oper} {t kt vt : TypeId} {i z : TI} {m k : Operand} {id d : Nat} {kp : P} {es es2 : List (P × P)} {b b2 : Bool} {g : G} (ho : o.op = .lookup t m k false) (hw : gwant ops σ.fr o = some true)
    (ht : ti Pg t = some i) (hd : i.desc = .map kt vt) (hz : ti Pg vt = some z) (hm : gev σ.fr m = .map id) (hk : gev σ.fr k = .p kp) (hh : σ.h id = .map es)
    (hv : orZero (zeroG z) (mapGet (geq Pg 6 kt) kp es) = some (b, g)) (hv2 : orZero (zeroG z) (mapGet (geq Pg 6 kt) kp es2) = some (b2, g)) (hkk : keysOk (geq Pg 6 kt) kp es) (hkk2 : keysOk (geq Pg 6 kt) kp es2)
    (hd0 : σ.h d = .none) (hd2 : C.lim ≤ d) (hdst : ∀ t, o.dst = some t → t < C.N) : EffJ C r ops o σ [d] [(id, .map es2)] g [] := by
  intro σ' hA a w H
  obtain ⟨hA1, hA2⟩ := hA
  have hev := agree_ev hA1
  have hm' : gev σ'.fr m = .map id := (hev m (by simp [ho, Op.operands])).trans hm
  have hk' : gev σ'.fr k = .p kp := (hev k (by simp [ho, Op.operands])).trans hk
  have hd' : σ'.h d = .none := (hA1.h d (by simp)).trans hd0
  have hw' : gwant ops σ'.fr o = some true := (gwant_agree hA1).trans hw
  have key : ∀ (es' : List (P × P)) (b' : Bool), σ'.h id = .map es' → orZero (zeroG z) (mapGet (geq Pg 6 kt) kp es') = some (b', g) → keysOk (geq Pg 6 kt) kp es' → Eff C r ops o σ' [d, id] g [] := fun es' b' he hv' hkk' =>
    eff_op (mu := false) (c := keysOk (geq Pg 6 kt) kp es') (out := ⟨g, none⟩) hw' (by simp only [ho, gsem, ht, hd, hz, glookup, hm', hk', rhp, List.mem_singleton, if_true, he, hv']; rfl) hkk' hd' hd2 (fun p e => by cases e) hdst
  rcases hA2 id (by simp) with e | e
  · exact key es b (e.trans hh) hv hkk σ' ⟨rfl, rfl, fun _ _ => rfl, fun _ _ => rfl⟩ a w H
  have e2 : σ'.h id = .map es2 := by simpa using e
  exact key es2 b2 e2 hv2 hkk2 σ' ⟨rfl, rfl, fun _ _ => rfl, fun _ _ => rfl⟩ a w H
theorem entAt_lt {eq : P → P → Option Bool} {k z : P} : ∀ {es : List (P × P)}, entAt eq k es < (entPut eq k z es).length
  | [] => by simp [entAt, entPut, mapGet, mapAt]
  | (k', v') :: es => by
    by_cases he : eq k k' = some true
    · simp [entPut, entAt, mapGet, mapAt, he]
    have ih := entAt_lt (eq := eq) (k := k) (z := z) (es := es)
    have e1 : (entPut eq k z ((k', v') :: es)).length = (entPut eq k z es).length + 1 := by
      simp only [entPut, mapGet, if_neg he]
      cases mapGet eq k es <;> rfl
    have e2 : entAt eq k ((k', v') :: es) = entAt eq k es + 1 := by
      simp only [entAt, mapAt, if_neg he]
      cases hm : mapAt eq k es (0 + 1) with
      | none =>
        cases hm0 : mapAt eq k es 0 with
        | none => rfl
        | some j0 => exact absurd hm (by rw [mapAt_up hm0]; simp)
      | some j =>
        obtain ⟨j', rfl, hj'⟩ := mapAt_shift hm
        rw [hj']; rfl
    omega
end Go.Gh

/- Sums and differences of 64 bits, whatever they are: the result is wrapped. -/
namespace Go.Gh
open Go.RowKit
variable {Pg : Program} {E : Env Pg} {C : Cx E} {r : Option Nat} {ops : Array Oper} {Q : GE → Sg E → Prop} {l l' : List (Nat × G)} {m m' : List (Nat × Ob)} {A : E.α} {df : List GD} {σ σ0 : Sg E}

end Go.Gh

/- One cell of an object read otherwise; an element of a slice that nobody turns, as an object. -/
namespace Go.Gh
open Go.RowKit
variable {Pg : Program} {E : Env Pg} {C : Cx E} {r : Option Nat} {ops : Array Oper} {Q : GE → Sg E → Prop} {l l' : List (Nat × G)} {m m' : List (Nat × Ob)} {A : E.α} {df : List GD} {σ σ0 : Sg E} {c : Code} {rest : List Oper} {cp : Prop}

/-- A nil slice in a register read as an object of no elements. -/
theorem Le.adoptReg {t d : Nat} (e : TypeId) (sz : Nat) (fl : Bool) (hr : σ.fr t = .nils) (hd : σ.h d = .none) (hd2 : C.lim ≤ d) :
    Le C σ { σ with h := upd σ.h d (.arr e sz [] fl), fr := upd σ.fr t (.own d 0) } := fun a w ⟨π, ρ, S, H⟩ => by
  have hdm : ∀ j, (σ.h j).men d = false := fun j => by
    cases hm : (σ.h j).men d with
    | false => rfl
    | true => exact absurd hd (H.wfh j d hm)
  obtain ⟨U1, U2⟩ := H.rel.newNil d hd hdm e sz fl
  have hne : ∀ i, σ.h i ≠ .none → upd σ.h d (Ob.arr e sz [] fl) i ≠ .none := fun i hi => by
    simp only [upd]; split
    · simp
    exact hi
  have H1 : St C { σ with h := upd σ.h d (.arr e sz [] fl) } a w π (upd ρ d ⟨0, .slice none 0 0, 0⟩) S := by
    refine H.putObj U1 U2 (fun j hj => ?_) (fun j hj => ?_) hne (fun j i hm => ?_)
    · have : j ≠ d := fun e => hj (e ▸ hd)
      rw [upd_other _ _ this]; exact .inl rfl
    · rw [upd_other _ _ (by omega)]; exact .inl rfl
    simp only [upd] at hm
    split at hm
    · simp [Ob.men] at hm
    exact hne i (H.wfh j i hm)
  refine ⟨π, _, S, H1.size, fun k => ?_, H1.defs, H1.rel, H1.trans, H1.step, fun k i hm => ?_, H1.wfh, H1.wfd⟩
  · have hv := H1.vals k
    show VRel π _ E.yv (upd σ.fr t (.own d 0) k) _
    simp only [upd]
    split
    · rename_i e; subst e
      replace hv : VRel π _ E.yv (σ.fr k) _ := hv
      rw [hr] at hv
      simp only [VRel] at hv ⊢
      rw [hv, upd_same]
      exact ⟨Nat.le_refl _, fun _ => rfl⟩
    exact hv
  replace hm : (upd σ.fr t (.own d 0) k).men i = true := hm
  simp only [upd] at hm
  split at hm
  · simp only [G.men, beq_iff_eq] at hm
    subst hm
    show upd σ.h d (Ob.arr e sz [] fl) d ≠ .none
    rw [upd_same]; simp
  exact H1.wfr k i hm
theorem gc_adoptR (t d : Nat) (e : TypeId) (sz : Nat) (fl : Bool) (hr : mkFr l t = .nils) (hd : mkHp m d = .none) (hd2 : C.lim ≤ d)
    (k : gwp C r c Q (sg ((t, .own d 0) :: l) ((d, .arr e sz [] fl) :: m) A df)) : gwp C r c Q (sg l m A df) :=
  gwp_le (Le.adoptReg (σ := sg l m A df) e sz fl hr hd hd2) k
/-! A slice of slices that is filled one by one: what is done, what is being filled, what is to come. -/
def toldC (done : List P) (x : List G) (m : Nat) : List G := done.map .p ++ (x ++ List.replicate m .nils)
theorem idls_app : ∀ (a b : List G), G.idls (a ++ b) = G.idls a ++ G.idls b
  | [], b => by simp [G.idls]
  | g :: a, b => by simp [G.idls, idls_app a b]
theorem idls_rep : ∀ m, G.idls (List.replicate m .nils) = []
  | 0 => rfl
  | m + 1 => by rw [List.replicate_succ]; simp [G.idls, G.idl, idls_rep m]
theorem idls_told (done : List P) (x : List G) (m : Nat) : G.idls (toldC done x m) = G.idls x := by
  rw [toldC, idls_app, idls_app, idls_rep, idls_p]; simp
theorem idls_nil1 : G.idls ([] : List G) = [] := rfl
end Go.Gh

/- A slice of the call's own that nobody turns from now on; ways brought together under a name. -/
namespace Go.Gh
open Go.RowKit
variable {Pg : Program} {E : Env Pg} {C : Cx E} {r : Option Nat} {ops : Array Oper} {Q : GE → Sg E → Prop} {l l' : List (Nat × G)} {m m' : List (Nat × Ob)} {A : E.α} {df : List GD} {σ σ0 : Sg E} {c : Code} {rest : List Oper} {cp : Prop}

theorem gc_freezeK (id n : Nat) {cs : List G} {fz : Nat} (ho : mkHp m id = .cells cs fz) (hn : fz ≤ n) (hn2 : n ≤ cs.length) (h1 : allOne (cs.take n) = true) (k : gwp C r c Q (sg l ((id, .cells cs n) :: m) A df)) : gwp C r c Q (sg l m A df) := gwp_le (Le.freezeK (σ := sg l m A df) ho hn hn2 h1) k
end Go.Gh

/- The end of a function that hands back a value that nobody turns, and objects. -/
namespace Go.Gh
variable {Pg : Program} {E : Env Pg} {l : List (Nat × G)} {m m' : List (Nat × Ob)} {A : E.α}
theorem fin_pk {fn : Func} {R : GRes E → Prop} {d d' : Prop} {g : G} {v : P} {I : List Nat} (hg : gresult Pg (mkHp m) (mkFr l) fn.results.toList = some (d, g)) (hd : d) (hp : toP (mkHp m) g = some (d', v)) (hd' : d') (hm : restrictL I m = m') (h3 : subB (hpIds m I) I = true)
    (hne : ∀ i ∈ I, mkHp m i ≠ .none) (hR : R (.ok (.p v) (mkHp m') A)) : Fin Pg fn R (sg l m A []) := by
  simp only [subB, List.all_eq_true, decide_eq_true_eq] at h3
  subst hm
  refine ⟨rfl, d, g, hg, hd, .p v, _, .inr ⟨d', v, hp, hd', rfl⟩, ⟨fun id => ?_, fun j id hx => ?_⟩, fun id hx => by simp [G.men] at hx, hR⟩
  · rw [restrict_at]; split
    · exact .inl rfl
    exact .inr rfl
  rw [restrict_at] at hx ⊢
  split at hx
  · rename_i hj
    have := h3 id (hp_ids hj hx)
    rw [if_pos this]; exact hne id this
  simp [Ob.men] at hx
end Go.Gh

/- The builtin copy, from a list that nobody turns into cells. -/
namespace Go.Gh
open Go.RowKit
variable {Pg : Program} {E : Env Pg} {C : Cx E} {r : Option Nat} {ops : Array Oper} {Q : GE → Sg E → Prop} {l l' : List (Nat × G)} {m m' : List (Nat × Ob)} {A : E.α} {df : List GD} {σ σ0 : Sg E} {c : Code} {rest : List Oper} {cp : Prop}

end Go.Gh

/- A call that panics in a region in any order: one operation may come before it or never. -/
namespace Go.Gh
open Go.RowKit
variable {Pg : Program} {E : Env Pg} {C : Cx E} {r : Option Nat} {ops : Array Oper} {Q : GE → Sg E → Prop} {l : List (Nat × G)} {m : List (Nat × Ob)} {A : E.α} {df : List GD} {σ0 σ1 : Sg E}

theorem free_apart {R : Nat → Rec} {i j : Nat} {oi oj : Oper} {di dj : List Nat × List Nat} (ho1 : ops[i]? = some oi) (ho2 : ops[j]? = some oj) (e1 : (R i).dst = oi.dst) (e2 : (R j).dst = oj.dst)
    (ha : (R i).I = di.1 ∧ (R i).ps.map (·.1) = di.2) (hb : (R j).I = dj.1 ∧ (R j).ps.map (·.1) = dj.2) (h : apartB ops.toList oi oj di dj = true) : Free ops R i j := by
  obtain ⟨a1, a2⟩ := ha
  obtain ⟨b1, b2⟩ := hb
  simp only [apartB, Bool.and_eq_true, regsOf_eq, List.all_eq_true] at h
  obtain ⟨⟨⟨c1, c2⟩, c3⟩, c4⟩ := h
  refine ⟨fun o ho t ht e => ?_, fun o ho t ht e => ?_, fun t ht e => ?_, fun p hp hx => ?_, fun p hp hx => ?_, fun p hp q hq e => ?_⟩
  · rw [ho2] at ho; cases ho
    rw [← e1, e] at c1
    simp at c1
    exact c1.1 ht
  · rw [ho1] at ho; cases ho
    rw [← e2, e] at c2
    simp at c2
    exact c2 ht
  · rw [← e1, ht] at c1
    rw [← e2, e] at c1
    simp at c1
  · have := c3 p.1 (by rw [← a2]; exact List.mem_map.2 ⟨p, hp, rfl⟩)
    rw [b1] at hx
    simp at this
    exact this.1 hx
  · have := c4 p.1 (by rw [← b2]; exact List.mem_map.2 ⟨p, hp, rfl⟩)
    rw [a1] at hx
    simp at this
    exact this hx
  have := c3 p.1 (by rw [← a2]; exact List.mem_map.2 ⟨p, hp, rfl⟩)
  simp at this
  refine this.2 ?_
  rw [← b2, e]
  exact List.mem_map.2 ⟨q, hq, rfl⟩

def panB (tab : List Nat) (l : List Oper) (lo n f : Nat) (ids : List (List Nat × List Nat)) (dj : List Nat × List Nat) : Bool :=
  freeB tab l lo ids && ((List.range n).all fun i => (tab.getD (lo + n) 0).testBit (lo + i)) &&
  ((List.range (l.length - lo)).all fun k => decide (k ≤ n) || k == f || (tab.getD (lo + k) 0).testBit (lo + n)) &&
  ((List.range n).all fun i => (tab.getD (lo + f) 0).testBit (lo + i) || (match l[lo + i]?, l[lo + f]?, ids[i]? with
    | some oi, some oj, some di => apartB l oi oj di dj
    | _, _, _ => false))

theorem segSt_skip {R : Nat → Rec} {lo : Nat} {X : Nat → Bool} {n : Nat} : ∀ k, (∀ q, n ≤ q → q < n + k → X (lo + q) = false) → segSt R lo σ0 X (n + k) = segSt R lo σ0 X n
  | 0, _ => rfl
  | k + 1, h => by
    rw [show n + (k + 1) = (n + k) + 1 by omega, segSt, h (n + k) (by omega) (by omega), segSt_skip k fun q h1 h2 => h q h1 (by omega)]
    rfl
theorem segSt_dummy {R : Nat → Rec} {lo : Nat} {n : Nat} : ∀ k, (∀ q, n ≤ q → q < n + k → (R (lo + q)).dst = none ∧ (R (lo + q)).ps = []) → segSt R lo σ0 (fun _ => true) (n + k) = segSt R lo σ0 (fun _ => true) n
  | 0, _ => rfl
  | k + 1, h => by
    obtain ⟨h1, h2⟩ := h (n + k) (by omega) (by omega)
    rw [show n + (k + 1) = (n + k) + 1 by omega, segSt, h1, h2, segSt_dummy k fun q h1 h2 => h q h1 (by omega)]
    rfl

theorem segK.pan1 {lo n f : Nat} {ids : List (List Nat × List Nat)} {oj of : Oper} {I : List Nat} {g : G} {ps : List (Nat × Ob)} {pi : List Nat} (tab : List Nat) (hn : ids.length = n) (hnf : n < f)
    (ho : ops[lo + n]? = some oj) (hof : ops[lo + f]? = some of) (he : Eff C r ops of σ1 I g ps) (hps : ps.map (·.1) = pi)
    (hw : waitsB tab ops.toList 0 = true) (hp : panB tab ops.toList lo n f ids (I, pi) = true)
    (h1 : EffN C r ops oj σ1 (fun _ => False) Q) (h2 : EffN C r ops oj (σ1.put of.dst g ps) (fun _ => False) Q) : segK C r ops (GPost C Q) lo σ0 ids σ1 := ⟨fun ⟨R, k1, k2, k3⟩ => by
  subst hps
  rw [hn] at k2 k3
  simp only [panB, Bool.and_eq_true, List.all_eq_true, List.mem_range, Bool.or_eq_true, decide_eq_true_eq, beq_iff_eq, Array.length_toList] at hp
  obtain ⟨⟨⟨hf, hdep⟩, hdead⟩, hfa⟩ := hp
  have hB := Waits.of hw
  have hfl : lo + f < ops.size := (Array.getElem?_eq_some_iff.1 hof).1
  let R' : Nat → Rec := fun k => if k < lo + n then R k else if k = lo + f then ⟨of.dst, g, ps, I⟩ else ⟨none, .undef, [], []⟩
  have hR : ∀ k, k < n → R (lo + k) = R' (lo + k) := fun k hk => by simp only [R']; rw [if_pos (by omega)]
  have hRf : R' (lo + f) = ⟨of.dst, g, ps, I⟩ := by simp only [R']; rw [if_neg (by omega)]; simp
  have hRd : ∀ k, n ≤ k → k ≠ f → R' (lo + k) = ⟨none, .undef, [], []⟩ := fun k h1 h2 => by simp only [R']; rw [if_neg (by omega), if_neg (by omega)]
  have hst : ∀ m, m ≤ n → segSt R' lo σ0 (fun _ => true) m = segSt R lo σ0 (fun _ => true) m := fun m hm => (segSt_congr m fun k hk => hR k (by omega)).symm
  have hstn : segSt R' lo σ0 (fun _ => true) n = σ1 := by rw [hst n (Nat.le_refl _)]; exact k3
  have hstf : segSt R' lo σ0 (fun _ => true) f = σ1 := by
    have := segSt_dummy (R := R') (lo := lo) (σ0 := σ0) (n := n) (f - n) fun q h1 h2 => by rw [hRd q h1 (by omega)]; exact ⟨rfl, rfl⟩
    rw [show n + (f - n) = f by omega] at this
    rw [this, hstn]
  -- what is live
  have hrun : ∀ q, q < n ∨ q = f → ∃ o, ops[lo + q]? = some o ∧ (R' (lo + q)).dst = o.dst ∧ Eff C r ops o (segSt R' lo σ0 (fun _ => true) q) (R' (lo + q)).I (R' (lo + q)).g (R' (lo + q)).ps := fun q hq => by
    rcases hq with hq | rfl
    · rw [← hR q hq, hst q (by omega)]
      exact k2 q hq
    rw [hRf, hstf]
    exact ⟨of, hof, rfl, he⟩
  have hfree : ∀ i j, i < j → i < n → j < n ∨ j = f → Bef ops.size tab (lo + i) (lo + j) ∨ Free ops R' (lo + i) (lo + j) := fun i j hij hi hj => by
    obtain ⟨oi, ho1, e1, _⟩ := hrun i (.inl hi)
    obtain ⟨oj, ho2, e2, _⟩ := hrun j hj
    have hi' : ids[i]? = some ids[i] := List.getElem?_eq_getElem (by omega)
    have ho1' : ops.toList[lo + i]? = some oi := by simpa using ho1
    have ho2' : ops.toList[lo + j]? = some oj := by simpa using ho2
    have ha := k1 i _ hi'
    rw [hR i hi] at ha
    have hjl : lo + j < ops.size := (Array.getElem?_eq_some_iff.1 ho2).1
    rcases hj with hj | rfl
    · simp only [freeB, List.all_eq_true, List.mem_range, Bool.or_eq_true] at hf
      have hj' : ids[j]? = some ids[j] := List.getElem?_eq_getElem (by omega)
      have hb := k1 j _ hj'
      rw [hR j hj] at hb
      rcases hf j (by omega) i hij with hx | hx
      · exact .inl ⟨hjl, hx⟩
      rw [ho1', ho2', hi', hj'] at hx
      exact .inr (free_apart ho1 ho2 e1 e2 ha hb hx)
    rcases hfa i (by omega) with hx | hx
    · exact .inl ⟨hjl, hx⟩
    rw [ho1', ho2', hi'] at hx
    exact .inr (free_apart (dj := (I, ps.map (·.1))) ho1 ho2 e1 e2 ha (by rw [hRf]; exact ⟨rfl, rfl⟩) hx)
  let len := ops.size - lo
  have hlen : lo + len = ops.size := by show lo + (ops.size - lo) = ops.size; omega
  have main : ∀ (c : Nat) (listed : Array Bool) (a : Act) (w : World), listed.size = ops.size → cnt (lst listed) lo len = c → (∀ k, k < lo → lst listed k = true) → lst listed (lo + n) = false →
      (∀ j o, ops[j]? = some o → lo ≤ j → j < ops.size → lst listed j = true → ∀ e ∈ o.after, Region.binds .any e = true → lst listed e.on = true) →
      Holds C (segSt R' lo σ0 (lst listed) len) a w → wpAnyIn (MF r) 0 Pg .any ops (GPost C Q) c listed a w := by
    intro c
    induction c with
    | zero =>
      intro listed a w hsz hc hlow hjp hdc H
      have := cnt_zero hc n (by omega)
      rw [hjp] at this; cases this
    | succ c ih =>
      intro listed a w hsz hc hlow hjp hdc H
      have hB' : ∀ j, (∀ o, ops[j]? = some o → ∀ e ∈ o.after, Region.binds .any e = true → lst listed e.on = true) → ∀ i, lo ≤ i → Bef ops.size tab i j → lst listed i = true := by
        intro j
        induction j using Nat.strongRecOn with
        | _ j ihj =>
          intro hj i hi hb
          obtain ⟨o, ho, e, he, hbe, hcase⟩ := hB.up i j hb
          have hon := hj o ho e he hbe
          rcases hcase with rfl | hb'
          · exact hon
          have hlt := hB.low j o ho e he hbe
          refine ihj e.on hlt (fun o' ho' e' he' hbe' => ?_) i hi hb'
          by_cases h1 : e.on < lo
          · have := hB.low _ _ ho' _ he' hbe'
            exact hlow _ (by omega)
          have hlt2 : e.on < ops.size := (Array.getElem?_eq_some_iff.1 ho').1
          exact hdc _ _ ho' (by omega) hlt2 hon _ he' hbe'
      have hlive : ∀ q, q < len → lst listed (lo + q) = true → q < n ∨ q = f := fun q hq hx => by
        rcases hdead q (by omega) with (h1 | h1) | h1
        · rcases Nat.lt_or_ge q n with h2 | h2
          · exact .inl h2
          have : q = n := by omega
          subst this; rw [hjp] at hx; cases hx
        · exact .inr h1
        have := hB' (lo + q) (fun o ho e he hbe => hdc _ o ho (by omega) (by omega) hx e he hbe) (lo + n) (by omega) ⟨by omega, h1⟩
        rw [hjp] at this; cases this
      obtain ⟨q0, hq0, hx0, hfirst⟩ := cnt_first (X := lst listed) (lo := lo) (m := len) (by omega)
      have hne : Region.ready .any ops listed ≠ [] := by
        intro hnil
        have hmem : lo + q0 ∈ Region.ready .any ops listed := by
          obtain ⟨o, ho⟩ : ∃ o, ops[lo + q0]? = some o := ⟨ops[lo + q0], by rw [Array.getElem?_eq_getElem]⟩
          refine mem_ready.2 ⟨hx0, o, ho, fun e he hbe => ?_⟩
          have hlt := hB.low _ _ ho e he hbe
          have hl : lst listed e.on = true := by
            by_cases h1 : e.on < lo
            · exact hlow _ h1
            have := hfirst (e.on - lo) (by omega)
            rwa [show lo + (e.on - lo) = e.on by omega] at this
          have hsz' : e.on < listed.size := by omega
          simp only [lst, Array.getD_eq_getD_getElem?, Array.getElem?_eq_getElem hsz', Option.getD_some] at hl ⊢
          exact hl
        rw [hnil] at hmem; cases hmem
      refine ⟨fun h0 => absurd h0 hne, fun i hi => ?_⟩
      obtain ⟨hun, o, ho', hall⟩ := mem_ready.1 hi
      have hilt : i < ops.size := (Array.getElem?_eq_some_iff.1 ho').1
      have hallt : ∀ e ∈ o.after, Region.binds .any e = true → lst listed e.on = true := fun e he hbe => by
        have h1 := hall e he hbe
        have hlt := hB.low _ _ ho' e he hbe
        have hsz' : e.on < listed.size := by omega
        simp only [lst, Array.getD_eq_getD_getElem?, Array.getElem?_eq_getElem hsz', Option.getD_some] at h1 ⊢
        exact h1
      have hallt' : ∀ o', ops[i]? = some o' → ∀ e ∈ o'.after, Region.binds .any e = true → lst listed e.on = true := fun o' h' => by rw [ho'] at h'; cases h'; exact hallt
      have hilo : lo ≤ i := by
        apply Nat.le_of_not_lt; intro h1
        rw [show listed.getD i true = lst listed i from rfl, hlow i h1] at hun; cases hun
      obtain ⟨q, rfl⟩ : ∃ q, i = lo + q := ⟨i - lo, by omega⟩
      have hqlen : q < len := by omega
      have hXq : lst listed (lo + q) = false := hun
      by_cases hqn : q = n
      · -- the call that panics
        rw [hqn] at ho' hallt' ⊢
        rw [ho] at ho'; cases ho'
        have hbefore : ∀ k, k < n → lst listed (lo + k) = true := fun k hk => hB' (lo + n) hallt' (lo + k) (by omega) ⟨by omega, hdep k hk⟩
        have s1 : segSt R' lo σ0 (lst listed) n = σ1 := by
          rw [← hstn]
          have : ∀ m, m ≤ n → segSt R' lo σ0 (lst listed) m = segSt R' lo σ0 (fun _ => true) m := fun m => by
            induction m with
            | zero => intro _; rfl
            | succ m ih => intro hm; simp only [segSt, hbefore m (by omega), ih (by omega)]
          exact this n (Nat.le_refl _)
        have hno : ∀ q, n ≤ q → q < len → q ≠ f → lst listed (lo + q) = false := fun q h1 h2 h3 => by
          cases hx : lst listed (lo + q) with
          | false => rfl
          | true => rcases hlive q h2 hx with h4 | h4 <;> omega
        have s2 : segSt R' lo σ0 (lst listed) f = σ1 := by
          have := segSt_skip (R := R') (lo := lo) (σ0 := σ0) (X := lst listed) (n := n) (f - n) fun q h1 h2 => hno q h1 (by omega) (by omega)
          rw [show n + (f - n) = f by omega] at this
          rw [this, s1]
        have s3 : segSt R' lo σ0 (lst listed) len = segSt R' lo σ0 (lst listed) (f + 1) := by
          have := segSt_skip (R := R') (lo := lo) (σ0 := σ0) (X := lst listed) (n := f + 1) (len - (f + 1)) fun q h1 h2 => hno q (by omega) (by omega) (by omega)
          rwa [show f + 1 + (len - (f + 1)) = len by omega] at this
        unfold wpOpIn
        rw [ho]
        rw [s3, segSt, s2, hRf] at H
        cases hx : lst listed (lo + f) with
        | false =>
          rw [hx] at H
          exact h1 a w H _ fun _ _ _ hk _ => hk.elim
        | true =>
          rw [hx] at H
          exact h2 a w H _ fun _ _ _ hk _ => hk.elim
      have hql : q < n ∨ q = f := by
        rcases hdead q (by omega) with (h1 | h1) | h1
        · left; omega
        · exact .inr h1
        have := hB' (lo + q) hallt' (lo + n) (by omega) ⟨by omega, h1⟩
        rw [hjp] at this; cases this
      -- who is apart from whom
      have fr1 : ∀ m, m < q → lst listed (lo + m) = false → (∀ oj, ops[lo + q]? = some oj → ∀ t ∈ oj.looksAt ops, (R' (lo + m)).dst ≠ some t) ∧ (∀ p ∈ (R' (lo + m)).ps, p.1 ∉ (R' (lo + q)).I) := fun m hm hx => by
        by_cases hmn : m < n
        · rcases hfree m q hm hmn hql with hb | hf
          · have := hB' (lo + q) hallt' (lo + m) (by omega) hb
            rw [hx] at this; cases this
          exact ⟨hf.r1, hf.o1⟩
        rw [hRd m (by omega) (by omega)]
        exact ⟨fun _ _ _ _ => by simp, fun p hp => by simp at hp⟩
      have fr2 : ∀ k, q < k → k < len → lst listed (lo + k) = true → Free ops R' (lo + q) (lo + k) := fun k hk hkl hx => by
        have hkl2 := hlive k hkl hx
        rcases hfree q k hk (by omega) hkl2 with hb | hf
        · have := hB' (lo + k) (fun o' ho' => hdc _ o' ho' (by omega) (by omega) hx) (lo + q) (by omega) hb
          rw [hXq] at this; cases this
        exact hf
      obtain ⟨o', ho2, hdst, heff⟩ := hrun q hql
      rw [ho'] at ho2; cases ho2
      have hmin : min len q = q := by omega
      have hag : Agree ops o (R' (lo + q)).I (segSt R' lo σ0 (fun _ => true) q) (segSt R' lo σ0 (lst listed) len) := by
        refine ⟨by rw [(segSt_A len).1, (segSt_A q).1], by rw [(segSt_A len).2, (segSt_A q).2], fun t ht => ?_, fun id hid => ?_⟩
        · have := segSt_fr (R := R') (σ := σ0) (t := t) hXq (fun m hm hx => (fr1 m hm hx).1 o ho' t ht) len (fun k hk hkl hx => (fr2 k hk hkl hx).r2 o ho' t ht)
          rwa [hmin] at this
        have := segSt_h (R := R') (σ := σ0) (id := id) hXq (fun m hm hx p hp e => (fr1 m hm hx).2 p hp (e ▸ hid)) len (fun k hk hkl hx p hp e => (fr2 k hk hkl hx).o2 p hp (e ▸ hid))
        rwa [hmin] at this
      have hw := heff _ hag a w H (wpAnyIn (MF r) 0 Pg .any ops (GPost C Q) c (listed.setIfInBounds (lo + q) true)) (GPost C Q) fun a' w' H' => ?_
      · unfold wpOpIn
        rw [ho']
        exact hw
      have hsz2 : lo + q < listed.size := by omega
      have hl' : ∀ k, lst (listed.setIfInBounds (lo + q) true) k = if k = lo + q then true else lst listed k := fun k => getD_set hsz2
      have hX' : lst (listed.setIfInBounds (lo + q) true) (lo + q) = true := by rw [hl']; simp
      have hsame : ∀ m, m ≠ q → lst (listed.setIfInBounds (lo + q) true) (lo + m) = lst listed (lo + m) := fun m hm => by
        rw [hl', if_neg (by omega)]
      refine ih _ a' w' (by simpa using hsz) ?_ (fun k hk => ?_) ?_ (fun j oj hoj h1 h2 hx e he hbe => ?_) ?_
      · have := (cnt_upd hXq hX' hsame len).2 hqlen
        omega
      · rw [hl', if_neg (by omega)]; exact hlow k hk
      · rw [hl', if_neg (by omega)]; exact hjp
      · rw [hl']
        split
        · rfl
        rw [hl'] at hx
        split at hx
        · rename_i e1
          subst e1
          rw [ho'] at hoj; cases hoj
          exact hallt e he hbe
        exact hdc j oj hoj h1 h2 hx e he hbe
      rw [(segSt_list (ops := ops) (R := R') (σ := σ0) hXq hX' hsame len fr2).2 hqlen, hdst]
      exact H'
  refine ⟨fun listed a w ⟨hsz, hl⟩ H => ?_⟩
  have hun : ∀ m, m ≤ len → cnt (lst listed) lo m = m ∧ segSt R' lo σ0 (lst listed) m = σ0 := fun m => by
    induction m with
    | zero => intro _; exact ⟨rfl, rfl⟩
    | succ m ih =>
      intro hm
      obtain ⟨i1, i2⟩ := ih (by omega)
      have hx : lst listed (lo + m) = false := by rw [hl _ (by omega)]; simp
      simp only [cnt, segSt, hx, i1, i2, Bool.false_eq_true, if_false, and_self]
  exact main len listed a w hsz (hun len (Nat.le_refl _)).1 (fun k hk => by rw [hl k (by omega)]; simp [hk]) (by rw [hl _ (by omega)]; simp)
    (fun j o ho h1 h2 hx => by rw [hl j (by omega)] at hx; simp at hx; omega) (by rw [(hun len (Nat.le_refl _)).2]; exact H)⟩
theorem effN_callp2 {cl : Call} {f : FuncId} {gs gargs : List G} {J : List Nat} {L : List (Nat × Nat)} {mc mr : List (Nat × Ob)} {ks : List Nat} {ad : Option (Nat × Ob)} {t : Nat} {ty : TypeId} {pos : String} {af : Array Edge} {gd : Option (Nat × Bool)} {v : P} {cp : Prop} {K : Sg E → Prop}
    (spec : Spec E f gargs (mkHp mc) A fun y => y = .panic v (mkHp mr) A) (hent : Enters Pg f) (hw : gwant ops (mkFr l) ⟨some t, .call cl, ty, pos, af, gd⟩ = some true) (hg : gcallee Pg (mkFr l) cl = some (f, gs)) (ha : AdoptOk C.lim (mkHp m) L ad) (hcv : cvtsM (rhp (mkHp m) J) (ad.map (·.1)) ks gs = some (cp, G.rens (look L) gargs)) (hc : cp)
    (hp : Pairs C.lim L (adoptH (mkHp m) ad) (mkHp mc)) (hdis : ∀ d ob, ad = some (d, ob) → d ∉ J) (hb : PairsB L (mkHp mc) (mkHp mr)) (ht : t < C.N)
    (k : Q (.panic v) ⟨mkFr l, putsH (mkHp m) (putsOf L (mkHp mr)), A, df⟩) : EffN C r ops ⟨some t, .call cl, ty, pos, af, gd⟩ (sg l m A df) K Q := by
  refine effN_call2 (o := ⟨some t, .call cl, ty, pos, af, gd⟩) (σ := sg l m A df) rfl hw hg hent ha hcv hc hp hdis spec (fun g h' A' e => ?_) (fun p h' A' e => ?_) (fun t' e => by cases e; exact ht)
  · cases e
  cases e; exact ⟨hb, k⟩
end Go.Gh

/- A call that leaves some objects as they are does not touch them. -/
namespace Go.Gh
open Go.RowKit
variable {Pg : Program} {E : Env Pg} {C : Cx E} {r : Option Nat} {ops : Array Oper} {σ : Sg E}
def sameP (h : Nat → Ob) (I U : List Nat) : List (Nat × Ob) → Prop
  | [] => True
  | p :: ps => (if U.contains p.1 = true then I.contains p.1 = true ∧ h p.1 = p.2 else True) ∧ sameP h I U ps
def lessP (U : List Nat) (ps : List (Nat × Ob)) : List (Nat × Ob) := ps.filter fun p => !U.contains p.1
theorem putsH_less {U : List Nat} : ∀ {ps : List (Nat × Ob)} {h : Nat → Ob}, (∀ p ∈ ps, U.contains p.1 = true → h p.1 = p.2) → putsH h ps = putsH h (lessP U ps)
  | [], _, _ => rfl
  | (i, ob) :: ps, h, hs => by
    rw [lessP, List.filter_cons]
    by_cases hu : U.contains i = true
    · rw [if_neg (by simp only [hu]; simp), putsH]
      have e : upd h i ob = h := funext fun x => by
        simp only [upd]
        split
        · rename_i e; rw [e]; exact (hs (i, ob) List.mem_cons_self hu).symm
        rfl
      rw [e]
      exact putsH_less fun p hp => hs p (List.mem_cons_of_mem _ hp)
    rw [if_pos (by simpa using hu), putsH, putsH]
    refine putsH_less fun p hp hpu => ?_
    have hne : p.1 ≠ i := fun e => hu (e ▸ hpu)
    have := hs p (List.mem_cons_of_mem _ hp) hpu
    simp only [upd, if_neg hne, this]
theorem sameP_all {h : Nat → Ob} {I U : List Nat} : ∀ {ps : List (Nat × Ob)}, sameP h I U ps → ∀ p ∈ ps, U.contains p.1 = true → p.1 ∈ I ∧ h p.1 = p.2
  | [], _, p, hp, _ => by cases hp
  | q :: ps, hs, p, hp, hu => by
    rcases List.mem_cons.1 hp with rfl | hp
    · have := hs.1
      rw [if_pos hu] at this
      exact ⟨by simpa using this.1, this.2⟩
    exact sameP_all hs.2 p hp hu
theorem Eff.less {o : Oper} {I U : List Nat} {g : G} {ps : List (Nat × Ob)} (he : Eff C r ops o σ I g ps) (hs : sameP σ.h I U ps) : Eff C r ops o σ I g (lessP U ps) := fun σ' hA a w H K Q hK => by
  refine he σ' hA a w H K Q fun a' w' H' => hK a' w' ?_
  have e : putsH σ'.h ps = putsH σ'.h (lessP U ps) := putsH_less fun p hp hu => by
    obtain ⟨h1, h2⟩ := sameP_all hs p hp hu
    rw [hA.h _ h1, h2]
  have e2 : σ'.put o.dst g ps = σ'.put o.dst g (lessP U ps) := by rw [Sg.put, Sg.put, e]
  rw [← e2]; exact H'
theorem Eff.less2 {o : Oper} {I U : List Nat} {g g2 : G} {ps ps0 ps2 : List (Nat × Ob)} (hs : sameP σ.h I U ps) (hps : ps0 = ps) (hps2 : lessP U ps = ps2) (hg : g = g2) (he : Eff C r ops o σ I g ps0) : Eff C r ops o σ I g2 ps2 := by
  subst hps; subst hps2; subst hg; exact he.less hs
end Go.Gh

/- From a contract over plain values to the call itself: what it hands back, and that nothing that was there has turned. -/
namespace Go.Gh
open Go.RowKit
variable {Pg : Program}

/-- Where no code waits for a yield. -/
def Env.base (Pg : Program) : Env Pg where
  α := Unit
  yv := .nilFunc
  one := rfl
  Res := fun _ S _ _ => ∀ b, ¬ S b
  Can := fun _ _ => False
  Y := fun _ _ _ _ => False
  stable := fun h _ _ _ _ _ => h
  ycall := fun h => h.elim
/-- What a world's cells hold. -/
def cellsP (w : World) : PM := fun b o => w.cell? ⟨b, o, none⟩
theorem base_rel (w : World) : Rel (Env.base Pg) (cellsP w) (fun _ => ⟨0, .nilFunc, 0⟩) (mkHp []) () (fun _ => False) w where
  know := fun _ _ _ h => h
  objs := fun id => by simp [ORel, mkHp_nil]
  apart := fun i j b hij h => by simp [live, mkHp_nil] at h
  sep := fun i b h => by simp [live, mkHp_nil] at h
  res := fun b h => h
  inb := fun b h => h.elim
theorem calls_of {f : FuncId} {ps : List P} {v : P} {vs : List Value} {w : World} (hs : PSpec Pg f ps (.ok v)) (hv : PRels (cellsP w) ps vs) :
    Calls Pg f ⟨vs⟩ w fun e w' => ∃ u π', e = .returned u ∧ PRel π' v u ∧ Below w.heap.size w w' := by
  have h := hs (Env.base Pg) () (cellsP w) (fun _ => ⟨0, .nilFunc, 0⟩) (fun _ => False) w vs (base_rel w) (VRels.of_PRels hv)
  refine (callsIn_wide.1 h).mono fun e w' k => ?_
  have key : ∀ {π' ρ' h' A' S'}, Behind (Env.base Pg) (cellsP w) (fun _ => ⟨0, .nilFunc, 0⟩) (mkHp []) (fun _ => False) w π' ρ' h' A' S' w' → Below w.heap.size w w' := fun b => by
    have t := b.trans
    refine ⟨t.os, t.tape, t.output, t.size, fun b hb => (t.keep b hb fun ho => ?_).1⟩
    rcases ho with ho | ⟨id, ho⟩
    · exact ho
    simp [live, mkHp_nil] at ho
  cases e with
  | returned u =>
    obtain ⟨π', ρ', h', A', S', g, b, hvr, _, hR⟩ := k
    simp only [PRes.at, GRes.ok.injEq] at hR
    obtain ⟨rfl, _, _⟩ := hR
    exact ⟨u, π', rfl, by simpa only [VRel] using hvr, key b⟩
  | panicked chain =>
    obtain ⟨π', ρ', h', A', S', p, v', b, _, _, hR⟩ := k
    simp [PRes.at] at hR
  | outgrown => exact k.elim
end Go.Gh

/- What a call's arguments hold, read as data, are ghost values of the shape that their types have. -/
namespace Go.Gh
open Go.RowKit

/-- The shape of one cell. -/
inductive S where
  | bool | int (k : IntKind) | str
  | list (es : List S) (agg : Bool)

/-- The shape of a type's cells, as far as we read them: slices of slices are left out. -/
def shpF (sh : TypeId → Option (List S)) (P : Program) : List Field → Nat → Option (List S)
  | [], _ => some []
  | f :: fs, o => (sh f.type).bind fun a => if f.offset = o ∧ P.cellsOf f.type = a.length then (shpF sh P fs (o + a.length)).map (a ++ ·) else none
def shp (P : Program) : Nat → Bool → TypeId → Option (List S)
  | 0, _, _ => none
  | n + 1, deep, t => match P.underlying t with
    | some .bool => some [.bool]
    | some (.int k) => some [.int k]
    | some .string => some [.str]
    | some (.slice e) => if deep then none else (shp P n true e).bind fun es => if P.cellsOf e = es.length then (match P.underlying e with
      | some (.struct _) => some [.list es true]
      | some (.array _ _) => some [.list es true]
      | _ => if es.length = 1 then some [.list es false] else none) else none
    | some (.struct fs) => shpF (shp P n deep) P fs.toList 0
    | some (.array m e) => (shp P n deep e).bind fun es => if P.cellsOf e = es.length then some (List.replicate m es).flatten else none
    | _ => none

mutual
def Fits : S → P → Prop
  | .bool, x => ∃ b, x = .bool b
  | .int k, x => ∃ n, x = .int k n ∧ (Lit.int k n).wf = true
  | .str, x => ∃ s, x = .str s ∧ s.length ≤ maxLen
  | .list es agg, x => ∃ xs, x = .list xs ∧ xs.length ≤ maxLen ∧ ∀ y ∈ xs, ∃ cs, Fitss es cs ∧ (agg = true → y = .agg cs) ∧ (agg = false → cs = [y])
def Fitss : List S → List P → Prop
  | [], xs => xs = []
  | e :: es, xs => ∃ y ys, xs = y :: ys ∧ Fits e y ∧ Fitss es ys
end
theorem Fits.one {s : S} {x : P} (h : Fits s x) : x.one = true := by
  cases s <;> simp only [Fits] at h
  · obtain ⟨_, rfl⟩ := h; rfl
  · obtain ⟨_, rfl, _⟩ := h; rfl
  · obtain ⟨_, rfl, _⟩ := h; rfl
  obtain ⟨_, rfl, _⟩ := h; rfl
theorem Fitss.length : ∀ {ss : List S} {xs : List P}, Fitss ss xs → xs.length = ss.length
  | [], xs, h => by simp only [Fitss] at h; subst h; rfl
  | s :: ss, xs, h => by
    simp only [Fitss] at h
    obtain ⟨y, ys, rfl, _, k⟩ := h
    simp [Fitss.length k]
theorem Fitss.one : ∀ {ss : List S} {xs : List P}, Fitss ss xs → ∀ x ∈ xs, x.one = true
  | [], xs, h, x, hx => by simp only [Fitss] at h; subst h; simp at hx
  | s :: ss, xs, h, x, hx => by
    simp only [Fitss] at h
    obtain ⟨y, ys, rfl, k1, k2⟩ := h
    rcases List.mem_cons.1 hx with rfl | hx
    · exact k1.one
    exact Fitss.one k2 x hx
theorem Fitss.append : ∀ {ss ts : List S} {xs ys : List P}, Fitss ss xs → Fitss ts ys → Fitss (ss ++ ts) (xs ++ ys)
  | [], ts, xs, ys, h, k => by simp only [Fitss] at h; subst h; simpa using k
  | s :: ss, ts, xs, ys, h, k => by
    simp only [Fitss] at h
    obtain ⟨y, zs, rfl, k1, k2⟩ := h
    simp only [List.cons_append, Fitss]
    exact ⟨y, _, rfl, k1, Fitss.append k2 k⟩
theorem PRels.append' {π : PM} {xs ys : List P} {us vs : List Value} (h : PRels π xs us) (k : PRels π ys vs) : PRels π (xs ++ ys) (us ++ vs) := by
  induction xs generalizing us with
  | nil => simp only [PRels] at h; subst h; simpa using k
  | cons x xs ih =>
    simp only [PRels] at h
    obtain ⟨v, ws, rfl, h1, h2⟩ := h
    simp only [List.cons_append, PRels]
    exact ⟨v, _, rfl, h1, ih h2⟩
/-- No cell leads into a part of an interface value. -/
def Spots (cs : List Value) : Prop := ∀ a len cap, Value.slice (some a) len cap ∈ cs → a.spot = none

variable {H : Type} {enc : TypeId × Value → H} {Pg : Program} {w : World} {base : Nat} {spare : Nat → Bool} {held : Bool}
theorem mapM_get {α β : Type} {f : α → Option β} : ∀ {l : List α} {r : List β}, l.mapM f = some r → r.length = l.length ∧ ∀ (i : Nat) x, l[i]? = some x → f x = r[i]?
  | l, r, h => ⟨mapM_some_length h, fun i x hx => mapM_some_get h i x hx⟩
theorem add_none (b o j : Nat) : (⟨b, o, none⟩ : Addr).add j = ⟨b, o + j, none⟩ := by simp [Addr.add]
/-- A row of cells, relation by relation. -/
theorem row_of {a : Addr} {n : Nat} {cs : List Value} {ps : List P} (hs : a.spot = none) (h : w.cells? base a n = some cs) (hr : PRels (cellsP w) ps cs) (h1 : ∀ x ∈ ps, x.one = true) : PRow (cellsP w) a.block a.off ps := by
  obtain ⟨_, hl, hc⟩ := World.cells?_some h
  refine PRow.mk fun j c hj => ?_
  obtain ⟨u, hu, hk⟩ := hr.get j c hj
  refine ⟨u, ?_, hk, h1 c (List.mem_of_getElem? hj)⟩
  have hjn : j < n := by
    have := (List.getElem?_eq_some_iff.1 hu).1
    omega
  have := hc j hjn
  rw [hu] at this
  rw [← this]
  obtain ⟨b, o, s⟩ := a
  simp only at hs; subst hs
  simp only [cellsP, add_none]
theorem PElems.of_rows {π : PM} {b c : Nat} : ∀ {xs : List P} {o : Nat}, (∀ (i : Nat) x, xs[i]? = some x → x.cells.length = c ∧ PRow π b (o + i * c) x.cells) → PElems π b o xs := by
  intro xs
  induction xs with
  | nil => intro o _; simp only [PElems]
  | cons x xs ih =>
    intro o h
    have h0 := h 0 x (by simp)
    rw [PElems.row, List.flatMap_cons, PRow.append, ← PElems.row]
    refine ⟨by simpa using h0.2, ?_⟩
    rw [h0.1]
    refine ih fun i y hy => ?_
    have := h (i + 1) y (by simpa using hy)
    refine ⟨this.1, ?_⟩
    have e : o + c + i * c = o + (i + 1) * c := by rw [Nat.add_mul]; omega
    rw [e]; exact this.2
theorem exists_list {α : Type} {n : Nat} {R : Nat → α → Prop} (h : ∀ i, i < n → ∃ x, R i x) : ∃ xs : List α, xs.length = n ∧ ∀ (i : Nat) x, xs[i]? = some x → R i x := by
  induction n with
  | zero => exact ⟨[], rfl, fun i x hx => by simp at hx⟩
  | succ n ih =>
    obtain ⟨xs, hl, hx⟩ := ih fun i hi => h i (by omega)
    obtain ⟨x, hr⟩ := h n (by omega)
    refine ⟨xs ++ [x], by simp [hl], fun i y hy => ?_⟩
    by_cases hi : i < n
    · rw [List.getElem?_append_left (by omega)] at hy; exact hx i y hy
    have hi' : i = n := by
      have := (List.getElem?_eq_some_iff.1 hy).1
      simp [hl] at this; omega
    subst hi'
    rw [List.getElem?_append_right (by omega), hl] at hy
    simp at hy; subst hy; exact hr

theorem Spots.sub {cs ds : List Value} (h : Spots cs) (hs : ∀ v ∈ ds, v ∈ cs) : Spots ds := fun a l c k => h a l c (hs _ k)

theorem shpF_sound {sh : TypeId → Option (List S)} {R : TypeId → List Value → Prop} {cs : List Value}
    (ih : ∀ t ss ds, sh t = some ss → Pg.cellsOf t = ss.length → R t ds → (∀ v ∈ ds, v ∈ cs) → ∃ ps, PRels (cellsP w) ps ds ∧ Fitss ss ps) :
    ∀ (fs : List Field) (o : Nat) (ss : List S), shpF sh Pg fs o = some ss → o + ss.length = cs.length → (∀ f ∈ fs, R f.type ((cs.drop f.offset).take (Pg.cellsOf f.type))) →
      ∃ ps, PRels (cellsP w) ps (cs.drop o) ∧ Fitss ss ps
  | [], o, ss, h, hl, _ => by
    simp only [shpF, Option.some.injEq] at h; subst h
    simp at hl; subst hl
    exact ⟨[], by simp [PRels], by simp [Fitss]⟩
  | f :: fs, o, ss, h, hl, hr => by
    simp only [shpF, Option.bind_eq_some_iff] at h
    obtain ⟨a, ha, h⟩ := h
    split at h
    · rename_i hc
      obtain ⟨rfl, hc⟩ := hc
      simp only [Option.map_eq_some_iff] at h
      obtain ⟨b, hb, rfl⟩ := h
      obtain ⟨p1, q1, g1⟩ := ih f.type a _ ha hc (hr f (by simp)) (fun v hv => List.mem_of_mem_drop (List.mem_of_mem_take hv))
      obtain ⟨p2, q2, g2⟩ := shpF_sound ih fs _ b hb (by simp at hl; omega) (fun g hg => hr g (by simp [hg]))
      refine ⟨p1 ++ p2, ?_, g1.append g2⟩
      have := q1.append' q2
      rw [hc] at this
      rw [← List.drop_drop] at this
      rwa [List.take_append_drop] at this
    cases h

theorem flat_sound {es : List S} {cs : List Value} {c : Nat} (hc : c = es.length) :
    ∀ (m o : Nat), (∀ i, o ≤ i → i < o + m → ∃ ps, PRels (cellsP w) ps ((cs.drop (i * c)).take c) ∧ Fitss es ps) →
      ∃ ps, PRels (cellsP w) ps ((cs.drop (o * c)).take (m * c)) ∧ Fitss (List.replicate m es).flatten ps := by
  intro m
  induction m with
  | zero => intro o _; exact ⟨[], by simp [PRels], by simp [Fitss]⟩
  | succ m ih =>
    intro o h
    obtain ⟨p1, q1, g1⟩ := h o (by omega) (by omega)
    obtain ⟨p2, q2, g2⟩ := ih (o + 1) fun i h1 h2 => h i (by omega) (by omega)
    refine ⟨p1 ++ p2, ?_, ?_⟩
    · have := q1.append' q2
      have e : (cs.drop (o * c)).take ((m + 1) * c) = (cs.drop (o * c)).take c ++ (cs.drop ((o + 1) * c)).take (m * c) := by
        rw [Nat.add_mul, Nat.one_mul, Nat.add_comm (m * c), List.take_add, List.drop_drop, Nat.add_mul, Nat.one_mul]
      rw [e]; exact this
    rw [List.replicate_succ, List.flatten_cons]; exact g1.append g2

theorem trod_arr {k : Nat} {t e : TypeId} {m : Nat} {cs : List Value} {x : DataW H × List MemPlace} (ht : Pg.underlying t = some (.array k e)) (h : DataW.trod enc Pg w base spare held m t cs = some x) :
    ∃ n, cs.length = Pg.cellsOf t ∧ ∀ i, i < k → ∃ y, DataW.trod enc Pg w base spare held n e ((cs.drop (i * Pg.cellsOf e)).take (Pg.cellsOf e)) = some y := by
  cases m with
  | zero => simp [DataW.trod] at h
  | succ n =>
    unfold DataW.trod at h
    rw [ht] at h
    split at h <;> simp_all
    obtain ⟨hl, xs, hxs, _⟩ := h
    refine ⟨n, fun i hi => ?_⟩
    obtain ⟨h1, h2⟩ := mapM_get hxs
    have := h2 i i (by simp [hi])
    simp at h1
    exact ⟨_, _, by rw [this]; exact List.getElem?_eq_getElem (by omega)⟩
theorem shp_sound : ∀ (n : Nat) (deep : Bool) (t : TypeId) (ss : List S), shp Pg n deep t = some ss →
    ∀ (m : Nat) (cs : List Value) (x : DataW H × List MemPlace), DataW.trod enc Pg w base spare held m t cs = some x → (deep = false → Spots cs) → Pg.cellsOf t = ss.length →
      ∃ ps, PRels (cellsP w) ps cs ∧ Fitss ss ps := by
  intro n
  induction n with
  | zero => intro _ _ _ h; simp [shp] at h
  | succ n ih =>
    intro deep t ss h m cs x hx hsp hct
    unfold shp at h
    split at h
    · rename_i ht
      simp only [Option.some.injEq] at h; subst h
      obtain ⟨b, rfl, _⟩ := DataW.trod_bool ht hx
      exact ⟨[.bool b], by simp [PRels, PRel], by simp [Fitss, Fits]⟩
    · rename_i k ht
      simp only [Option.some.injEq] at h; subst h
      obtain ⟨b, rfl, _, hw⟩ := DataW.trod_int ht hx
      exact ⟨[.int k b], by simp [PRels, PRel], by simp [Fitss, Fits, hw]⟩
    · rename_i ht
      simp only [Option.some.injEq] at h; subst h
      obtain ⟨s, rfl, _, hw⟩ := DataW.trod_string ht hx
      exact ⟨[.str s.data.toList], by simp [PRels, PRel], by simp [Fitss, Fits]; exact hw⟩
    · rename_i e ht
      split at h
      · cases h
      rename_i hdeep
      simp only [Option.bind_eq_some_iff] at h
      obtain ⟨es, hes, h⟩ := h
      split at h
      · rename_i hce
        have agg : ∃ g : Bool, ss = [.list es g] ∧ (g = false → es.length = 1) := by
          split at h
          · simp only [Option.some.injEq] at h; subst h; exact ⟨true, rfl, fun k => by cases k⟩
          · simp only [Option.some.injEq] at h; subst h; exact ⟨true, rfl, fun k => by cases k⟩
          split at h
          · rename_i h1
            simp only [Option.some.injEq] at h; subst h; exact ⟨false, rfl, fun _ => h1⟩
          cases h
        obtain ⟨g, rfl, hg⟩ := agg
        clear h
        rcases DataW.trod_slice ht hx with ⟨rfl, _⟩ | ⟨a, len, cap, elems, rest, n', _, rfl, _, hb, hl, hm, hlen, hel, _, _⟩
        · refine ⟨[.list []], ?_, by simp [Fitss, Fits]⟩
          simp only [PRels, PRel]
          exact ⟨_, _, rfl, ⟨none, 0, 0, rfl, rfl, Nat.le_refl _, .inl ⟨rfl, rfl⟩⟩, rfl⟩
        have hspot : a.spot = none := hsp (by simpa using hdeep) a len cap (by simp)
        have each : ∀ i, i < len → ∃ y : P, ∃ cs, PRow (cellsP w) a.block (a.off + i * es.length) cs ∧ cs.length = es.length ∧ y.cells = cs ∧ Fitss es cs ∧ (g = true → y = .agg cs) ∧ (g = false → cs = [y]) := by
          intro i hi
          have hh := hel i hi
          rw [List.getElem?_eq_getElem (by omega)] at hh
          simp only [Option.bind_eq_some_iff] at hh
          obtain ⟨ds, hds, hy⟩ := hh
          obtain ⟨ps, q1, q2⟩ := ih true e es hes _ _ _ hy (fun k => by cases k) hce
          have hrow' : PRow (cellsP w) a.block (a.off + i * es.length) ps := by
            obtain ⟨b, o, s⟩ := a
            simp only at hspot; subst hspot
            rw [add_none] at hds
            have := row_of rfl hds q1 q2.one
            rwa [hce] at this
          cases g with
          | true => exact ⟨.agg ps, ps, hrow', q2.length, rfl, q2, fun _ => rfl, (fun k => by cases k)⟩
          | false =>
            have := hg rfl
            have hl1 := q2.length
            rw [this] at hl1
            obtain ⟨y, rfl⟩ := List.length_eq_one_iff.1 hl1
            refine ⟨y, [y], hrow', by simp [this], ?_, q2, (fun k => by cases k), fun _ => rfl⟩
            have := q2.one y (by simp)
            cases y <;> first | rfl | simp [P.one] at this
        obtain ⟨xs, hxl, hxs⟩ := exists_list each
        refine ⟨[.list xs], ?_, ?_⟩
        · obtain ⟨b, o, s⟩ := a
          simp only at hspot; subst hspot
          simp only [PRels, PRel]
          refine ⟨_, _, rfl, ⟨_, len, cap, rfl, by omega, hl, .inr ⟨b, o, rfl, ?_⟩⟩, rfl⟩
          refine PElems.of_rows (c := es.length) fun i x hi => ?_
          obtain ⟨cs, k1, k2, k3, _⟩ := hxs i x hi
          rw [k3]; exact ⟨k2, k1⟩
        simp only [Fitss, Fits]
        refine ⟨_, _, rfl, ⟨xs, rfl, by omega, fun y hy => ?_⟩, rfl⟩
        obtain ⟨i, hi⟩ := List.getElem?_of_mem hy
        obtain ⟨cs, _, _, _, k4, k5, k6⟩ := hxs i y hi
        exact ⟨cs, k4, k5, k6⟩
      cases h
    · rename_i fs ht
      obtain ⟨xs, n', _, _, hl, hxl, hf⟩ := DataW.trod_struct ht hx
      have := shpF_sound (w := w) (Pg := Pg) (sh := shp Pg n deep) (R := fun t ds => ∃ y, DataW.trod enc Pg w base spare held n' t ds = some y) (cs := cs) ?_ fs.toList 0 ss h (by omega) ?_
      · simpa using this
      · rintro t' ss' ds' hs' hc' ⟨y, hy⟩ hsub
        exact ih deep t' ss' hs' _ _ _ hy (fun k => (hsp k).sub hsub) hc'
      intro f hf'
      obtain ⟨i, hi⟩ := List.getElem?_of_mem hf'
      have hi' : fs[i]? = some f := by simpa using hi
      have := hf i f hi'
      have hlt : i < xs.length := by
        rw [hxl]
        exact (Array.getElem?_eq_some_iff.1 hi').1
      exact ⟨_, by rw [this]; exact List.getElem?_eq_getElem hlt⟩
    · rename_i k e ht
      simp only [Option.bind_eq_some_iff] at h
      obtain ⟨es, hes, h⟩ := h
      split at h
      · rename_i hce
        simp only [Option.some.injEq] at h; subst h
        obtain ⟨n', hl, hf⟩ := trod_arr ht hx
        have hlen : cs.length = k * es.length := by
          rw [hl, hct]; simp
        have := flat_sound (w := w) (cs := cs) (es := es) (c := Pg.cellsOf e) hce k 0 ?_
        · simp only [Nat.zero_mul, List.drop_zero] at this
          rwa [List.take_of_length_le (by rw [hce]; omega)] at this
        intro i _ hi
        obtain ⟨y, hy⟩ := hf i (by omega)
        exact ih deep e es hes _ _ _ hy (fun q => (hsp q).sub fun v hv => List.mem_of_mem_drop (List.mem_of_mem_take hv)) hce
      cases h
    cases h
end Go.Gh

/- The join of a law: from a contract over plain values, for all values of the parameters' shapes, to what the row asks of the call. -/
namespace Go.Gh
open Go.RowKit Go.ChangeShapes Go.WideShapes Go.ChangeAt

def argS (P : Program) (n : Nat) (t : TypeId) : Option (Bool × List S) :=
  match P.underlying t with
  | some (.struct _) => (shp P n false t).bind fun ss => if P.cellsOf t = ss.length then some (true, ss) else none
  | some (.array _ _) => (shp P n false t).bind fun ss => if P.cellsOf t = ss.length then some (true, ss) else none
  | _ => (shp P n false t).bind fun ss => if P.cellsOf t = ss.length ∧ ss.length = 1 then some (false, ss) else none
def argSs (P : Program) (n : Nat) : List TypeId → Option (List (Bool × List S))
  | [] => some []
  | t :: ts => match argS P n t, argSs P n ts with
    | some s, some ss => some (s :: ss)
    | _, _ => none
def FitA : Bool × List S → P → Prop
  | (true, ss), x => ∃ cs, x = .agg cs ∧ Fitss ss cs
  | (false, ss), x => Fitss ss [x]
def FitAs : List (Bool × List S) → List P → Prop
  | [], xs => xs = []
  | s :: ss, xs => ∃ y ys, xs = y :: ys ∧ FitA s y ∧ FitAs ss ys

variable {H : Type} {enc : TypeId × Value → H} {Pg : Program} {W : World} {base : Nat} {spare : Nat → Bool} {held : Bool}
theorem cell_spot {u : TypeId} {a : Addr} {len cap : Nat} {r : Reach} (h : Cell.okWide Pg W r base u (.slice (some a) len cap)) : a.spot = none := by
  unfold Cell.okWide at h
  cases hu : Pg.underlying u with
  | none => simp [hu, Cell.ok] at h
  | some d =>
    rw [hu] at h
    cases d <;> simp [Cell.ok, hu] at h
    exact h.2.2.2.1
theorem agg_spots {t : TypeId} {cs : Array Value} {r : Reach} (h : Row.okWide Pg W r base t cs) : Spots cs.toList := fun a len cap hm => by
  obtain ⟨ts, _, _, h⟩ := h
  obtain ⟨i, hi⟩ := List.getElem?_of_mem hm
  obtain ⟨u, _, hk⟩ := h i _ (by simpa using hi)
  exact cell_spot hk
theorem arg_of {n : Nat} {t : TypeId} {v : Value} {d : DataW H} {p : List MemPlace} {s : Bool × List S} {r : Reach} {b0 : Nat} (h : DataW.Trod enc Pg W base spare held t v d p) (hv : Value.okWide Pg W r b0 t v) (hs : argS Pg n t = some s) :
    ∃ x, PRel (cellsP W) x v ∧ FitA s x := by
  obtain ⟨fuel, h⟩ := h
  have aggs : (∃ cs, v = .agg cs ∧ cs.size = Pg.cellsOf t ∧ Row.okWide Pg W r b0 t cs) → (((shp Pg n false t).bind fun ss => if Pg.cellsOf t = ss.length then some (true, ss) else none) = some s) → ∃ x, PRel (cellsP W) x v ∧ FitA s x := by
    rintro ⟨cs, rfl, hl, ho⟩ hs
    simp only [Option.bind_eq_some_iff] at hs
    obtain ⟨ss, hss, hs⟩ := hs
    split at hs
    · rename_i hc
      simp only [Option.some.injEq] at hs; subst hs
      obtain ⟨ps, q1, q2⟩ := shp_sound n false t ss hss _ _ _ h (fun _ => agg_spots ho) hc
      refine ⟨.agg ps, ?_, ps, rfl, q2⟩
      simp only [PRel]
      exact ⟨_, rfl, q1⟩
    cases hs
  have ones : v.cells = #[v] → Cell.okWide Pg W r b0 t v → (((shp Pg n false t).bind fun ss => if Pg.cellsOf t = ss.length ∧ ss.length = 1 then some (false, ss) else none) = some s) → ∃ x, PRel (cellsP W) x v ∧ FitA s x := by
    intro hv1 ho hs
    simp only [Option.bind_eq_some_iff] at hs
    obtain ⟨ss, hss, hs⟩ := hs
    split at hs
    · rename_i hc
      simp only [Option.some.injEq] at hs; subst hs
      obtain ⟨ps, q1, q2⟩ := shp_sound n false t ss hss _ _ _ h (fun _ => by
        rw [hv1]
        intro a len cap hm
        simp at hm; subst hm
        exact cell_spot ho) hc.1
      have hl := q2.length
      rw [hc.2] at hl
      obtain ⟨x, rfl⟩ := List.length_eq_one_iff.1 hl
      rw [hv1] at q1
      simp only [PRels] at q1
      obtain ⟨v', vs, e, q, e'⟩ := q1
      subst e'
      simp at e; subst e
      exact ⟨x, q, q2⟩
    cases hs
  unfold argS at hs
  unfold Value.okWide at hv
  split at hs
  · rename_i hu; rw [hu] at hv; exact aggs hv hs
  · rename_i hu; rw [hu] at hv; exact aggs hv hs
  rename_i h1 h2
  have ho : Cell.okWide Pg W r b0 t v := by
    revert hv
    cases hu : Pg.underlying t with
    | none => exact id
    | some d => cases d <;> first | exact id | exact absurd hu (h1 _) | exact absurd hu (h2 _ _)
  refine ones ?_ ho hs
  revert ho
  unfold Cell.okWide
  cases v with
  | agg cs => cases hu : Pg.underlying t with
    | none => simp [Cell.ok, hu]
    | some d => cases d <;> simp [Cell.ok, hu]
  | _ => intro _; rfl
theorem args_of {n : Nat} : ∀ {ts : List TypeId} {vs : List Value} {ds : List (DataW H)} {p : List MemPlace} {ss : List (Bool × List S)} {r : Reach} {b0 : Nat}, DataW.TrodAll enc Pg W base spare held ts vs ds p →
    (∀ (j : Nat) t v, ts[j]? = some t → vs[j]? = some v → Value.okWide Pg W r b0 t v) → argSs Pg n ts = some ss → ∃ ps, PRels (cellsP W) ps vs ∧ FitAs ss ps
  | [], vs, ds, p, ss, r, b0, h, _, hs => by
    obtain ⟨rfl, _⟩ := trodAll_nil h
    simp only [argSs, Option.some.injEq] at hs; subst hs
    exact ⟨[], by simp [PRels], by simp [FitAs]⟩
  | t :: ts, vs, ds, p, ss, r, b0, h, hv, hs => by
    obtain ⟨v, vs', d, ds', p', q, rfl, rfl, rfl, h1, h2⟩ := trodAll_cons h
    unfold argSs at hs
    split at hs
    · rename_i s ss' e1 e2
      simp only [Option.some.injEq] at hs; subst hs
      obtain ⟨x, k1, k2⟩ := arg_of h1 (hv 0 t v rfl rfl) e1
      obtain ⟨xs, k3, k4⟩ := args_of h2 (fun j t v a b => hv (j + 1) t v (by simpa using a) (by simpa using b)) e2
      refine ⟨x :: xs, ?_, ?_⟩
      · simp only [PRels]; exact ⟨_, _, rfl, k1, k3⟩
      simp only [FitAs]; exact ⟨_, _, rfl, k2, k4⟩
    cases hs
/-- The arguments read as before. -/
theorem trodAll_stays (hl : laidOutB Pg = true) {W W' : World} (hb : Below W.heap.size W W') : ∀ {ts : List TypeId} {vs : List Value} {ds : List (DataW H)} {p : List MemPlace},
    (ts.all fun t => Pg.readableRec t && decide (t < Pg.types.size)) = true → DataW.TrodAll enc Pg W 0 (fun _ => true) true ts vs ds p →
    DataW.TrodAll enc Pg W' 0 (fun b => decide (b < W.heap.size)) true ts vs ds p
  | [], vs, ds, p, _, h => by
    obtain ⟨rfl, rfl, rfl⟩ := trodAll_nil h
    exact trodAll_mk0
  | t :: ts, vs, ds, p, ht, h => by
    obtain ⟨v, vs', d, ds', p', q, rfl, rfl, rfl, h1, h2⟩ := trodAll_cons h
    simp only [List.all_cons, Bool.and_eq_true, decide_eq_true_eq] at ht
    have lt : ∀ x ∈ p', x.block < W.heap.size := by obtain ⟨m, hm⟩ := h1; exact DataW.trod_lt m _ _ _ hm
    exact trodAll_cons_mk (Below.trod hl ht.1.1 ht.1.2 h1 hb lt) (trodAll_stays hl hb ht.2 h2)
/-- What a law's row asks of the call. -/
theorem law_post {sp : ChangeSpec} {fn : Func} {f : FuncId} {n : Nat} {ss : List (Bool × List S)} {b : TypeId}
    (hl : laidOutB Pg = true) (hrd : (fn.params.toList.all fun t => Pg.readableRec t && decide (t < Pg.types.size)) = true)
    (hss : argSs Pg n fn.params.toList = some ss) (hres : fn.resultTypes = #[b]) (hb : Pg.underlying b = some .bool) (hvars : sp.vars = [])
    (hsp : ∀ ds : List (DataW H), ds.length = fn.params.size → sp.fn H ds = { results := [.lit (.bool true)], args := ds })
    (hlaw : ∀ ps, FitAs ss ps → PSpec Pg f ps (.ok (.bool true)))
    {args : Array Value} {ds gs : List (DataW H)} {before : List MemPlace} {base : Nat}
    (hval : ∀ (j : Nat) t v, fn.params[j]? = some t → args[j]? = some v → Value.okWide Pg W .any base t v)
    (hW : DataW.Whole enc Pg fn.params.toList sp.vars false W args.toList ds gs before) :
    Calls Pg f args W fun e W' => ∃ v, e = .returned v ∧ sp.post enc Pg fn false true false false W args v W' := by
  have hW' := hW
  obtain ⟨p, q, hA, hV, rfl, hfz, hnd⟩ := hW
  rw [hvars] at hV
  obtain ⟨rfl, rfl⟩ := trodVars_none hV
  have hval' : ∀ (j : Nat) t v, fn.params.toList[j]? = some t → args.toList[j]? = some v → Value.okWide Pg W .any base t v := fun j t v h1 h2 =>
    hval j t v (by simpa using h1) (by simpa using h2)
  obtain ⟨ps, k1, k2⟩ := args_of hA hval' hss
  have hds : ds.length = fn.params.size := by
    have := (trodAll_length hA).2
    simpa using this
  have := calls_of (w := W) (hlaw ps k2) k1
  refine (Calls.mono this) fun e W' ⟨u, π', he, hu, hbel⟩ => ?_
  simp only [PRel] at hu; subst hu
  refine ⟨_, he, ds, [], _, [], p, [], hW', ?_, ?_, ?_, hbel.frame _, fun h => by cases h⟩
  · rw [List.append_nil, hsp ds hds, hres]
    exact trodAll_mk1 (shut_bool hb _)
  · rw [List.append_nil, hsp ds hds]
    exact trodAll_stays hl hbel hrd hA
  rw [List.append_nil, hsp ds hds, hvars]
  rfl
end Go.Gh
