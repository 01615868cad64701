/- A way of reading machine states as plain values, with its rules; no program in sight. -/
import Derived.Test.YtabeeaiilanmjaaA1
import Derived.OrdersIn
import Derived.TacticsIn
import Derived.Sort.LoopGhostIn
set_option linter.unusedVariables false
set_option linter.unusedSimpArgs false
/- Keys of maps; maps. -/
namespace Go.Gh
open Go.RowKit
variable {Pg : Program} {E : Env Pg} {π : PM} {ρ : RM} {h : Nat → Ob} {a : E.α} {S : Nat → Prop} {w : World}

theorem checkKey_ok (n : Nat) (em : Bool) : ∀ (d : Nat) (t : TypeId) (x : P) (r : Bool), geq Pg d t x x = some r → ∀ v, PRel π x v → ∀ w, (Instr.checkKey em (n + d) t v).run Pg w = .ok () w
  | 0 => fun t x r h => by simp [geq] at h
  | d + 1 => fun t x r h v hx w => by
    have ih := checkKey_ok n em d
    show (Instr.checkKey em (n + d + 1) t v).run Pg w = _
    cases hu : Pg.underlying t with
    | none => simp [geq, hu] at h
    | some D =>
      cases D with
      | bool => simp only [Instr.checkKey, Sem.run_bind, run_underlying hu, Result.andThen_ok, Sem.run_pure]
      | int k' => simp only [Instr.checkKey, Sem.run_bind, run_underlying hu, Result.andThen_ok, Sem.run_pure]
      | string => simp only [Instr.checkKey, Sem.run_bind, run_underlying hu, Result.andThen_ok, Sem.run_pure]
      | struct fs =>
        obtain ⟨xs, ys, rfl, e, hs, h⟩ := geq_struct hu h
        cases e
        simp only [PRel] at hx
        obtain ⟨us, rfl, hx⟩ := hx
        simp only [Instr.checkKey, Sem.run_bind, run_underlying hu, Result.andThen_ok]
        rw [← Array.forIn_toList]
        have := checkFields_ok (em := em) ih hx w _ _ h
        simp only [ne_eq, ite_not] at this ⊢
        simp only [Sem.run_bind, this, Result.andThen_ok, Sem.run_pure]
      | array m e =>
        obtain ⟨xs, ys, j, rfl, e, hj, h'⟩ := geq_array hu h
        cases e
        clear h
        have h := h'
        clear h'
        simp only [PRel] at hx
        obtain ⟨us, rfl, hx⟩ := hx
        simp only [Instr.checkKey, Sem.run_bind, run_underlying hu, Result.andThen_ok]
        simp only [Std.Legacy.Range.forIn_eq_forIn_range', Std.Legacy.Range.size, Nat.sub_zero, Nat.add_one_sub_one, Nat.div_one]
        rw [List.range_eq_range'] at h
        generalize List.range' 0 m = is at h
        induction is generalizing r with
        | nil => simp
        | cons k is ihl =>
          rw [List.map_cons] at h
          obtain ⟨b, c, hb, hc, rfl⟩ := allB_cons h
          obtain ⟨p, q, hp, hq, he⟩ := itmEq_spec hb
          rw [hp] at hq; cases hq
          obtain ⟨u, hu', hru⟩ := ppart_ok hp hx w
          simp only [List.forIn_cons, Sem.run_bind, run_size hj w, hu', ih _ _ _ he u hru w, Result.andThen_ok, Sem.run_pure]
          exact ihl c hc
      | _ => simp [geq, hu] at h

theorem findAsking_ok {kt : TypeId} {k : P} {v : Value} (hk : PRel π k v) (w : World) :
    ∀ {ms : List MapEntry} {es : List (P × P)} (i : Nat), MRels π ms es → (∀ x ∈ es, (geq Pg 6 kt k x.1).isSome = true) →
      ∃ r, (Instr.findAsking kt v ms i).run Pg w = .ok r w ∧ (mapGet (geq Pg 6 kt) k es = none ∧ r = none ∧ mapAt (geq Pg 6 kt) k es i = none ∨ ∃ p u j, mapGet (geq Pg 6 kt) k es = some p ∧ PRel π p u ∧ r = some (j, u) ∧ mapAt (geq Pg 6 kt) k es i = some j)
  | [], es, i, hm, _ => by
    simp only [MRels] at hm
    subst hm
    exact ⟨none, by simp [Instr.findAsking], .inl ⟨rfl, rfl, rfl⟩⟩
  | m :: ms, es, i, hm, hs => by
    simp only [MRels] at hm
    obtain ⟨k', v', es', rfl, hk', hv', hm⟩ := hm
    have h1 := hs (k', v') (by simp)
    obtain ⟨b, hb⟩ := Option.isSome_iff_exists.1 h1
    have heq : (Op.equal kt v m.key).run Pg w = .ok b w := geq_ok (Pg := Pg) (π := π) 9994 6 _ _ _ _ hb _ _ hk hk' w
    simp only [Instr.findAsking, Sem.run_bind, heq, Result.andThen_ok]
    cases b
    · obtain ⟨r, hr, hc⟩ := findAsking_ok (kt := kt) hk w (i + 1) hm fun x hx => hs x (by simp [hx])
      refine ⟨r, by simpa using hr, ?_⟩
      simpa [mapGet, mapAt, hb] using hc
    refine ⟨some (i, m.val), by simp, .inr ⟨v', m.val, i, by simp [mapGet, hb], hv', rfl, by simp [mapAt, hb]⟩⟩

theorem sameNow_eq {D : TypeDesc} {kt : TypeId} (hD : Pg.underlying kt = some D) {k k' : Value} {b : Bool} (h : Instr.sameNow D k k' = some b) : (Op.equal kt k k').run Pg w = .ok b w := by
  unfold Instr.sameNow at h
  split at h
  · split at h
    · rename_i hk; subst hk
      simp only [Option.some.injEq] at h
      subst h
      exact run_equalIn_int w 9999 kt _ _ _ _ hD
    cases h
  · simp only [Option.some.injEq] at h
    subst h
    rw [beq_toListBytes]
    exact run_equalIn_string w 9999 kt _ _ hD
  · simp only [Option.some.injEq] at h
    subst h
    exact run_equalIn_bool' w 9999 kt _ _ hD
  cases h

theorem findNow_asking {D : TypeDesc} {kt : TypeId} (hD : Pg.underlying kt = some D) {k : Value} : ∀ {ms : List MapEntry} {i : Nat} {r : Option (Nat × Value)}, Instr.findNow D k ms i = some r → (Instr.findAsking kt k ms i).run Pg w = .ok r w
  | [], i, r, h => by simp only [Instr.findNow, Option.some.injEq] at h; subst h; simp [Instr.findAsking]
  | m :: ms, i, r, h => by
    simp only [Instr.findNow] at h
    split at h
    · rename_i hs
      simp only [Option.some.injEq] at h
      subst h
      have : (Op.equal kt k m.key).run Pg w = .ok true w := sameNow_eq hD hs
      simp only [Instr.findAsking, Sem.run_bind, this, Result.andThen_ok, if_true, Sem.run_pure]
    · rename_i hs
      have : (Op.equal kt k m.key).run Pg w = .ok false w := sameNow_eq hD hs
      simp only [Instr.findAsking, Sem.run_bind, this, Result.andThen_ok, Bool.false_eq_true, if_false]
      exact findNow_asking hD h
    cases h

theorem findKey_ok {kt : TypeId} {k : P} {v : Value} (hk : PRel π k v) (w : World) {r0 : Bool} (hkk : geq Pg 6 kt k k = some r0) {ms : List MapEntry} {es : List (P × P)} (hm : MRels π ms es) (hs : ∀ x ∈ es, (geq Pg 6 kt k x.1).isSome = true) :
      ∃ r, (Instr.findKey kt v ms).run Pg w = .ok r w ∧ (mapGet (geq Pg 6 kt) k es = none ∧ r = none ∧ mapAt (geq Pg 6 kt) k es 0 = none ∨ ∃ p u j, mapGet (geq Pg 6 kt) k es = some p ∧ PRel π p u ∧ r = some (j, u) ∧ mapAt (geq Pg 6 kt) k es 0 = some j) := by
  obtain ⟨D, hD⟩ : ∃ D, Pg.underlying kt = some D := by
    cases hu : Pg.underlying kt with
    | none => simp [geq, hu] at hkk
    | some D => exact ⟨D, rfl⟩
  obtain ⟨r, hr, hc⟩ := findAsking_ok (kt := kt) hk w 0 hm hs
  refine ⟨r, ?_, hc⟩
  simp only [Instr.findKey, Sem.run_bind, run_underlying hD, Result.andThen_ok]
  split
  · rename_i r' hr'
    have := findNow_asking (w := w) hD hr'
    rw [hr] at this
    simp only [Result.ok.injEq, and_true] at this
    subst this
    rfl
  exact hr

theorem orZero_ok {vt : TypeId} {z : TI} (hz : ti Pg vt = some z) {o : Option P} {b : Bool} {g : G} (ho : orZero (zeroG z) o = some (b, g)) : (∃ p, o = some p ∧ b = true ∧ g = .p p) ∨ (o = none ∧ b = false ∧ ∃ v, (zeroValue vt).run Pg w = .ok v w ∧ VRel π ρ E.yv g v) := by
  unfold orZero at ho
  split at ho
  · rename_i v
    simp only [Option.some.injEq, Prod.mk.injEq] at ho
    exact .inl ⟨v, rfl, ho.1.symm, ho.2.symm⟩
  split at ho
  · rename_i g' hg'
    simp only [Option.some.injEq, Prod.mk.injEq] at ho
    obtain ⟨rfl, rfl⟩ := ho
    exact .inr ⟨rfl, rfl, zeroG_ok hz hg'⟩
  cases ho

theorem getObj_map {b : Nat} {es : Array MapEntry} {clock : Nat} (h : w.heap[b]? = some (.map es clock)) : (getObj b).run Pg w = .ok (.map es clock) w := by
  simp [getObj, Sem.run, h]

theorem lookup_ok (R : Rel E π ρ h a S w) {t kt vt : TypeId} {i z : TI} (ht : ti Pg t = some i) (hd : i.desc = .map kt vt) (hz : ti Pg vt = some z) {ok : Bool} {gk gm : G} {c : Prop} {out : Out}
    (hg : glookup (geq Pg 6 kt) z ok h gk gm = some (c, out)) (hc : c) {kv mv : Value} (hk : VRel π ρ E.yv gk kv) (hm : VRel π ρ E.yv gm mv) :
    out.put = none ∧ ∃ r, (Instr.lookup t mv kv ok).run Pg w = .ok r w ∧ VRel π ρ E.yv out.val r := by
  obtain ⟨_, _, hund, _⟩ := ti_spec ht
  rw [hd] at hund
  unfold glookup at hg
  split at hg
  · rename_i id
    split at hg
    · rename_i es kp hes
      split at hg
      · rename_i b g hb
        cases hg
        obtain ⟨hkk, hkeys⟩ := hc
        have ho := R.objs id
        rw [hes] at ho
        obtain ⟨ms, clock, hw, hms, hbr⟩ := ho
        simp only [VRel] at hk hm
        subst hm
        obtain ⟨r0, hr0⟩ := Option.isSome_iff_exists.1 hkk
        obtain ⟨r, hr, hcase⟩ := findKey_ok hk w hr0 hms fun x hx => (hkeys x hx).1
        have hck : ∀ em, (Instr.checkKey em 10000 kt kv).run Pg w = .ok () w := fun em => checkKey_ok 9994 em 6 _ _ _ hr0 _ hk w
        refine ⟨rfl, ?_⟩
        rcases orZero_ok (E := E) (ρ := ρ) (π := π) (w := w) hz hb with ⟨p, e1, rfl, rfl⟩ | ⟨e1, rfl, v, hv, hvr⟩
        · rcases hcase with ⟨e2, _⟩ | ⟨p', u, j, e2, hu, rfl, _⟩
          · rw [e1] at e2; cases e2
          rw [e1] at e2; cases e2
          refine ⟨if ok then .tuple #[u, .bool true] else u, ?_, ?_⟩
          · simp only [Instr.lookup, Sem.run_bind, run_underlying hund, Result.andThen_ok, getObj_map hw, hck, hr, Sem.run_pure]
          cases ok
          · show VRel π ρ E.yv (.p p) u
            simpa only [VRel] using hu
          exact VRel.tuple2 (show VRel π ρ E.yv (.p p) u by simpa only [VRel] using hu) (VRel.bool true)
        rcases hcase with ⟨_, rfl, _⟩ | ⟨p', u, j, e2, _⟩
        · refine ⟨if ok then .tuple #[v, .bool false] else v, ?_, ?_⟩
          · simp only [Instr.lookup, Sem.run_bind, run_underlying hund, Result.andThen_ok, getObj_map hw, hck, hr, hv, Sem.run_pure]
          cases ok
          · exact hvr
          exact VRel.tuple2 hvr (VRel.bool false)
        rw [e1] at e2; cases e2
      cases hg
    cases hg
  cases hg
end Go.Gh

/- What is put into maps. -/
namespace Go.Gh
open Go.RowKit
variable {Pg : Program} {E : Env Pg} {π : PM} {ρ : RM} {h : Nat → Ob} {a : E.α} {S : Nat → Prop} {w : World}

theorem MRels.push : ∀ {ms : List MapEntry} {es : List (P × P)} {m : MapEntry} {k v : P}, MRels π ms es → PRel π k m.key → PRel π v m.val → MRels π (ms ++ [m]) (es ++ [(k, v)])
  | [], es, m, k, v, hm, hk, hv => by
    simp only [MRels] at hm
    subst hm
    simp only [List.nil_append, MRels]
    exact ⟨k, v, [], rfl, hk, hv, rfl⟩
  | m' :: ms, es, m, k, v, hm, hk, hv => by
    simp only [MRels] at hm
    obtain ⟨k', v', es', rfl, hk', hv', hm⟩ := hm
    simp only [List.cons_append, MRels]
    exact ⟨k', v', _, rfl, hk', hv', MRels.push hm hk hv⟩

theorem mapPut_none {eq : P → P → Option Bool} {k v : P} : ∀ {es : List (P × P)}, mapGet eq k es = none → mapPut eq k v es = es ++ [(k, v)]
  | [], _ => rfl
  | (k', v') :: es, h => by
    simp only [mapGet] at h
    split at h
    · cases h
    rename_i hn
    simp only [mapPut, if_neg hn, List.cons_append, mapPut_none h]

theorem mapAt_shift {eq : P → P → Option Bool} {k : P} : ∀ {es : List (P × P)} {i j : Nat}, mapAt eq k es (i + 1) = some j → ∃ j', j = j' + 1 ∧ mapAt eq k es i = some j'
  | [], i, j, h => by simp [mapAt] at h
  | (k', v') :: es, i, j, h => by
    simp only [mapAt] at h ⊢
    split at h
    · simp only [Option.some.injEq] at h
      exact ⟨i, h.symm, by simp [*]⟩
    rename_i hn
    obtain ⟨j', e, hj⟩ := mapAt_shift h
    exact ⟨j', e, by simp [hn, hj]⟩

theorem MRels.modify {eq : P → P → Option Bool} {k v : P} {kv vv : Value} (hk : PRel π k kv) (hv : PRel π v vv) :
    ∀ {ms : List MapEntry} {es : List (P × P)} {j : Nat}, MRels π ms es → (∀ x ∈ es, eq k x.1 = some true → x.1 = k) → mapAt eq k es 0 = some j →
      MRels π (ms.modify j fun e => { e with key := kv, val := vv }) (mapPut eq k v es) ∧ ∃ m, ms[j]? = some m ∧ PRel π k m.key
  | [], es, j, hm, _, hj => by simp only [MRels] at hm; subst hm; simp [mapAt] at hj
  | m :: ms, es, j, hm, hke, hj => by
    simp only [MRels] at hm
    obtain ⟨k', v', es', rfl, hk', hv', hm⟩ := hm
    simp only [mapAt] at hj
    split at hj
    · rename_i he
      simp only [Option.some.injEq] at hj
      subst hj
      have : k' = k := hke (k', v') (by simp) he
      subst this
      refine ⟨?_, m, rfl, hk'⟩
      simp only [mapPut, if_pos he, List.modify_zero_cons, MRels]
      exact ⟨k', v, es', rfl, hk, hv, hm⟩
    rename_i hn
    obtain ⟨j', rfl, hj'⟩ := mapAt_shift hj
    obtain ⟨r1, m', r2, r3⟩ := MRels.modify hk hv hm (fun x hx => hke x (by simp [hx])) hj'
    refine ⟨?_, m', by simpa using r2, r3⟩
    simp only [mapPut, if_neg hn, List.modify_succ_cons, MRels]
    exact ⟨k', v', _, rfl, hk', hv', r1⟩

theorem Rel.setMap (R : Rel E π ρ h a S w) {id : Nat} {es es' : List (P × P)} {ms ms' : List MapEntry} {clock clock' n : Nat} (ho : h id = .map es) (hw : w.heap[(ρ id).blk]? = some (.map ⟨ms⟩ clock)) (hr : MRels π ms' es') (hb : Births ms' clock') {w' : World}
    (hw' : w' = { w with heap := w.heap.setIfInBounds (ρ id).blk (.map ⟨ms'⟩ clock'), drawn := n }) :
    Rel E π (upd ρ id (ρ id)) (upd h id (.map es')) a S w' ∧ Trans (Own ρ h S) w π (Own (upd ρ id (ρ id)) (upd h id (.map es')) S) w' π := by
  subst hw'
  have hlt : (ρ id).blk < w.heap.size := (Array.getElem?_eq_some_iff.1 hw).1
  refine R.turn id (ρ id) (.map es') (by simp) rfl rfl rfl (fun b hb hn => ?_) (PM.le_refl _) (fun b o v hv => ?_) (fun j hj hm => .inl rfl) ?_ (fun b hb => ?_)
  · rw [ho] at hn
    simp only [live, ne_eq, Option.some.injEq] at hn
    exact ⟨by simp [Array.getElem?_setIfInBounds, hn], rfl⟩
  · by_cases hb : b = (ρ id).blk
    · subst hb
      have hk := R.know _ _ _ hv
      simp [World.cell?, hw] at hk
    have hk := R.know _ _ _ hv
    simp only [World.cell?] at hk ⊢
    rw [Array.getElem?_setIfInBounds_ne (Ne.symm hb)]
    exact hk
  · simp only [ORel, upd_same]
    exact ⟨ms', clock', by simp [hlt], hr, hb⟩
  simp only [live, upd_same] at hb
  left; rw [ho]; exact hb

theorem Births.push {ms : List MapEntry} {clock : Nat} (h : Births ms clock) (k v : Value) : Births (ms ++ [{ key := k, val := v, born := clock }]) (clock + 1) := by
  obtain ⟨h1, h2⟩ := h
  refine ⟨by simp [h1], fun i m hm => ?_⟩
  by_cases e : i < ms.length
  · rw [List.getElem?_append_left e] at hm; exact h2 i m hm
  rw [List.getElem?_append_right (by omega)] at hm
  have hlt := (List.getElem?_eq_some_iff.1 hm).1
  simp only [List.length_cons, List.length_nil] at hlt
  rw [show i - ms.length = 0 by omega] at hm
  simp only [List.getElem?_cons_zero, Option.some.injEq] at hm
  subst hm
  show clock = i
  omega
theorem Births.modify {ms : List MapEntry} {clock : Nat} (h : Births ms clock) (j : Nat) (f : MapEntry → MapEntry) (hf : ∀ e, (f e).born = e.born) : Births (ms.modify j f) clock := by
  obtain ⟨h1, h2⟩ := h
  refine ⟨by simp [h1], fun i m hm => ?_⟩
  rw [List.getElem?_modify] at hm
  cases hi : ms[i]? with
  | none => rw [hi] at hm; simp at hm
  | some m0 =>
    rw [hi] at hm
    have h0 := h2 i m0 hi
    simp only [Option.map_eq_map, Option.map_some, Option.some.injEq] at hm
    split at hm
    · subst hm; rw [hf]; exact h0
    subst hm; exact h0
theorem run_setObj_map {b : Nat} {o : Obj} {es : Array MapEntry} {clock : Nat} (h : w.heap[b]? = some (.map es clock)) : (setObj b o).run Pg w = .ok () { w with heap := w.heap.setIfInBounds b o } := by
  simp [setObj, Sem.run, h]

theorem keyThatStays_ok (old new : Value) : ∃ k n, (Instr.keyThatStays old new).run Pg w = .ok k { w with drawn := n } ∧ (k = old ∨ k = new) := by
  by_cases hs : Instr.sameBits 10000 old new = true
  · exact ⟨new, w.drawn, by simp [Instr.keyThatStays, hs], .inr rfl⟩
  simp only [Instr.keyThatStays, hs, Bool.false_eq_true, if_false, Sem.run_bind, run_choose]
  split
  · refine ⟨_, w.drawn, rfl, ?_⟩
    simp
  refine ⟨_, w.drawn + 1, rfl, ?_⟩
  split
  · exact .inr rfl
  exact .inl rfl

theorem mapUpdate_ok (R : Rel E π ρ h a S w) {t kt vt : TypeId} {i : TI} (ht : ti Pg t = some i) (hd : i.desc = .map kt vt) {d : Nat} {gk gv gm : G} {c : Prop} {out : Out}
    (hg : gmapUpdate (geq Pg 6 kt) h gk gv gm = some (c, out)) (hc : c) {kv vv mv : Value} (hk : VRel π ρ E.yv gk kv) (hv : VRel π ρ E.yv gv vv) (hm : VRel π ρ E.yv gm mv) :
    ∃ w', (Instr.mapUpdate t mv kv vv).run Pg w = .ok () w' ∧ Post E π ρ h a S w d out undef w' := by
  obtain ⟨_, _, hund, _⟩ := ti_spec ht
  rw [hd] at hund
  unfold gmapUpdate at hg
  split at hg
  · rename_i id
    split at hg
    · rename_i es kp cv vp hes htp
      cases hg
      obtain ⟨hcv, hkk, hkeys⟩ := hc
      have hvp := toP_ok R htp hcv hv
      have ho := R.objs id
      rw [hes] at ho
      obtain ⟨ms, clock, hw, hms, hbr⟩ := ho
      simp only [VRel] at hk hm
      subst hm
      obtain ⟨r0, hr0⟩ := Option.isSome_iff_exists.1 hkk
      obtain ⟨r, hr, hcase⟩ := findKey_ok hk w hr0 hms fun x hx => (hkeys x hx).1
      have hck : ∀ em, (Instr.checkKey em 10000 kt kv).run Pg w = .ok () w := fun em => checkKey_ok 9994 em 6 _ _ _ hr0 _ hk w
      rcases hcase with ⟨e1, rfl, e2⟩ | ⟨p', u, j, e1, hu, rfl, e2⟩
      · obtain ⟨U1, U2⟩ := R.setMap (n := w.drawn) hes hw (MRels.push hms (m := { key := kv, val := vv, born := clock }) hk hvp) (clock' := clock + 1) (hbr.push kv vv) rfl
        rw [← mapPut_none (v := vp) e1] at U1 U2
        refine ⟨_, ?_, π, upd ρ id (ρ id), ?_, U1, U2, rstep_upd (.inr (.inl rfl))⟩
        · simp only [Instr.mapUpdate, Sem.run_bind, run_underlying hund, Result.andThen_ok, getObj_map hw, hck, hr, run_setObj_map hw, List.push_toArray]
        simp only [VRel]
      obtain ⟨k2, n, hks, hk2⟩ := keyThatStays_ok (Pg := Pg) (w := w) (((ms[j]?).map (·.key)).getD kv) kv
      obtain ⟨_, m, hmj, hmk⟩ := MRels.modify (eq := geq Pg 6 kt) hk hvp hms (fun x hx => (hkeys x hx).2) e2
      have hk2r : PRel π kp k2 := by
        rcases hk2 with rfl | rfl
        · simpa [hmj] using hmk
        exact hk
      obtain ⟨hmod, _⟩ := MRels.modify (eq := geq Pg 6 kt) hk2r hvp hms (fun x hx => (hkeys x hx).2) e2
      obtain ⟨U1, U2⟩ := R.setMap (n := n) hes hw hmod (clock' := clock) (hbr.modify j _ fun _ => rfl) rfl
      refine ⟨_, ?_, π, upd ρ id (ρ id), ?_, U1, U2, rstep_upd (.inr (.inl rfl))⟩
      · have hw2 : ({ w with drawn := n } : World).heap[(ρ id).blk]? = some (.map ⟨ms⟩ clock) := hw
        simp only [Instr.mapUpdate, Sem.run_bind, run_underlying hund, Result.andThen_ok, getObj_map hw, hck, hr, hks, run_setObj_map hw2, List.getElem?_toArray, List.modify_toArray]
      simp only [VRel]
    cases hg
  cases hg
theorem mapAt_up {eq : P → P → Option Bool} {k : P} : ∀ {es : List (P × P)} {i j : Nat}, mapAt eq k es i = some j → mapAt eq k es (i + 1) = some (j + 1)
  | [], i, j, h => by simp [mapAt] at h
  | (k', v') :: es, i, j, h => by
    simp only [mapAt] at h ⊢
    split at h
    · simp only [Option.some.injEq] at h
      subst h
      rename_i hn
      rw [if_pos hn]
    rename_i hn
    rw [if_neg hn]; exact mapAt_up h
/-- An entry's key is put again. -/
theorem MRels.rekey {eq : P → P → Option Bool} {k : P} {kv : Value} (hk : PRel π k kv) :
    ∀ {ms : List MapEntry} {es : List (P × P)} {j : Nat}, MRels π ms es → (∀ x ∈ es, eq k x.1 = some true → x.1 = k) → mapAt eq k es 0 = some j →
      MRels π (ms.modify j fun e => { e with key := kv }) es ∧ ∃ m, ms[j]? = some m ∧ PRel π k m.key
  | [], es, j, hm, _, hj => by simp only [MRels] at hm; subst hm; simp [mapAt] at hj
  | m :: ms, es, j, hm, hke, hj => by
    simp only [MRels] at hm
    obtain ⟨k', v', es', rfl, hk', hv', hm⟩ := hm
    simp only [mapAt] at hj
    split at hj
    · rename_i he
      simp only [Option.some.injEq] at hj
      subst hj
      have : k' = k := hke (k', v') (by simp) he
      subst this
      refine ⟨?_, m, rfl, hk'⟩
      simp only [List.modify_zero_cons, MRels]
      exact ⟨k', v', es', rfl, hk, hv', hm⟩
    rename_i hn
    obtain ⟨j', rfl, hj'⟩ := mapAt_shift hj
    obtain ⟨r1, m', r2, r3⟩ := MRels.rekey hk hm (fun x hx => hke x (by simp [hx])) hj'
    refine ⟨?_, m', by simpa using r2, r3⟩
    simp only [List.modify_succ_cons, MRels]
    exact ⟨k', v', _, rfl, hk', hv', r1⟩
theorem MRels.setVal {v : P} {vv : Value} (hv : PRel π v vv) : ∀ {ms : List MapEntry} {es : List (P × P)} (j : Nat), MRels π ms es → MRels π (ms.modify j fun e => { e with val := vv }) (entSet es j v)
  | [], es, j, hm => by simp only [MRels] at hm; subst hm; simp [entSet, MRels]
  | m :: ms, es, 0, hm => by
    simp only [MRels] at hm
    obtain ⟨k', v', es', rfl, hk', hv', hm⟩ := hm
    simp only [entSet, List.modify_zero_cons, MRels]
    exact ⟨k', v, es', rfl, hk', hv, hm⟩
  | m :: ms, es, j + 1, hm => by
    simp only [MRels] at hm
    obtain ⟨k', v', es', rfl, hk', hv', hm⟩ := hm
    have := MRels.setVal hv j hm
    simp only [entSet, List.modify_succ_cons, MRels] at this ⊢
    exact ⟨k', v', _, rfl, hk', hv', this⟩
theorem mapEntry_ok (R : Rel E π ρ h a S w) {t kt vt : TypeId} {i z : TI} (ht : ti Pg t = some i) (hd : i.desc = .map kt vt) (hz : ti Pg vt = some z) {d : Nat} {gk gm : G} {c : Prop} {out : Out}
    (hg : gmapEntry (geq Pg 6 kt) z h gk gm = some (c, out)) (hc : c) {kv mv : Value} (hk : VRel π ρ E.yv gk kv) (hm : VRel π ρ E.yv gm mv) :
    ∃ r w', (Instr.mapEntry t mv kv).run Pg w = .ok r w' ∧ Post E π ρ h a S w d out r w' := by
  obtain ⟨_, _, hund, _⟩ := ti_spec ht
  rw [hd] at hund
  unfold gmapEntry at hg
  split at hg
  · rename_i id
    split at hg
    · rename_i es kp zp hes hzp
      cases hg
      obtain ⟨hkk, hkeys⟩ := hc
      have ho := R.objs id
      rw [hes] at ho
      obtain ⟨ms, clock, hw, hms, hbr⟩ := ho
      simp only [VRel] at hk hm
      subst hm
      obtain ⟨r0, hr0⟩ := Option.isSome_iff_exists.1 hkk
      obtain ⟨r, hr, hcase⟩ := findKey_ok hk w hr0 hms fun x hx => (hkeys x hx).1
      have hck : ∀ em, (Instr.checkKey em 10000 kt kv).run Pg w = .ok () w := fun em => checkKey_ok 9994 em 6 _ _ _ hr0 _ hk w
      have hlen := MRels.length hms
      rcases hcase with ⟨e1, rfl, e2⟩ | ⟨p', u, j, e1, hu, rfl, e2⟩
      · obtain ⟨zv, hzv, hzr⟩ := zeroG_ok (E := E) (π := π) (ρ := ρ) (w := w) hz hzp
        simp only [VRel] at hzr
        obtain ⟨U1, U2⟩ := R.setMap (n := w.drawn) hes hw (MRels.push hms (m := { key := kv, val := zv, born := clock }) hk hzr) (clock' := clock + 1) (hbr.push kv zv) rfl
        have x1 : entPut (geq Pg 6 kt) kp zp es = es ++ [(kp, zp)] := by simp [entPut, e1]
        have x2 : entAt (geq Pg 6 kt) kp es = es.length := by simp [entAt, e2]
        rw [← x1] at U1 U2
        refine ⟨.tuple #[zv, goInt clock], _, ?_, π, upd ρ id (ρ id), ?_, U1, U2, rstep_upd (.inr (.inl rfl))⟩
        · simp only [Instr.mapEntry, Sem.run_bind, run_underlying hund, Result.andThen_ok, getObj_map hw, hck, hr, hzv, run_setObj_map hw, List.push_toArray, Sem.run_pure]
        rw [e1, x2]
        have t1 : VRel π (upd ρ id (ρ id)) E.yv (.p zp) zv := by simp only [VRel]; exact hzr
        have t2 : VRel π (upd ρ id (ρ id)) E.yv (.p (.int .i64 es.length)) (.int .i64 clock) := by
          simp only [VRel, PRel]; rw [hbr.1, hlen]
        exact VRel.tuple2 t1 t2
      obtain ⟨k2, n, hks, hk2⟩ := keyThatStays_ok (Pg := Pg) (w := w) (((ms[j]?).map (·.key)).getD kv) kv
      obtain ⟨_, m, hmj, hmk⟩ := MRels.rekey (eq := geq Pg 6 kt) hk hms (fun x hx => (hkeys x hx).2) e2
      have hk2r : PRel π kp k2 := by
        rcases hk2 with rfl | rfl
        · simpa [hmj] using hmk
        exact hk
      obtain ⟨hmod, _⟩ := MRels.rekey (eq := geq Pg 6 kt) hk2r hms (fun x hx => (hkeys x hx).2) e2
      obtain ⟨U1, U2⟩ := R.setMap (n := n) hes hw hmod (clock' := clock) (hbr.modify j _ fun _ => rfl) rfl
      have x1 : entPut (geq Pg 6 kt) kp zp es = es := by simp [entPut, e1]
      have x2 : entAt (geq Pg 6 kt) kp es = j := by simp [entAt, e2]
      have hw2 : ({ w with drawn := n } : World).heap[(ρ id).blk]? = some (.map ⟨ms⟩ clock) := hw
      rw [← x1] at U1 U2
      refine ⟨.tuple #[u, goInt (((ms[j]?).map (·.born)).getD 0)], _, ?_, π, upd ρ id (ρ id), ?_, U1, U2, rstep_upd (.inr (.inl rfl))⟩
      · simp only [Instr.mapEntry, Sem.run_bind, run_underlying hund, Result.andThen_ok, getObj_map hw, hck, hr, hks, run_setObj_map hw2, List.getElem?_toArray, List.modify_toArray, Sem.run_pure]
      rw [e1, x2, hmj, Option.map_some, Option.getD_some, hbr.2 j m hmj]
      have t1 : VRel π (upd ρ id (ρ id)) E.yv (.p p') u := by simp only [VRel]; exact hu
      have t2 : VRel π (upd ρ id (ρ id)) E.yv (.p (.int .i64 j)) (.int .i64 j) := by simp only [VRel, PRel]
      exact VRel.tuple2 t1 t2
    cases hg
  cases hg
theorem births_find {ms : List MapEntry} {clock n : Nat} (h : Births ms clock) (hn : n < ms.length) : ms.findIdx? (fun e => (e.born : Int) == (n : Int)) = some n := by
  rw [List.findIdx?_eq_some_iff_getElem]
  refine ⟨hn, ?_, fun j hj => ?_⟩
  · have := h.2 n ms[n] (List.getElem?_eq_getElem hn)
    simp [this]
  have := h.2 j (ms[j]'(by omega)) (List.getElem?_eq_getElem _)
  simp [this]; omega
theorem entryStore_ok (R : Rel E π ρ h a S w) {t : TypeId} {d : Nat} {gs gv gm : G} {c : Prop} {out : Out}
    (hg : gentryStore h gs gv gm = some (c, out)) (hc : c) {sv vv mv : Value} (hs : VRel π ρ E.yv gs sv) (hv : VRel π ρ E.yv gv vv) (hm : VRel π ρ E.yv gm mv) :
    ∃ w', (Instr.entryStore t mv sv vv).run Pg w = .ok () w' ∧ Post E π ρ h a S w d out undef w' := by
  unfold gentryStore at hg
  split at hg
  · rename_i id
    split at hg
    · rename_i es n cv vp hes htp
      cases hg
      obtain ⟨hcv, hn0, hnl⟩ := hc
      have hvp := toP_ok R htp hcv hv
      have ho := R.objs id
      rw [hes] at ho
      obtain ⟨ms, clock, hw, hms, hbr⟩ := ho
      simp only [VRel, PRel] at hs hm
      subst hm
      subst hs
      have hlen := MRels.length hms
      obtain ⟨q, rfl⟩ : ∃ q : Nat, n = q := ⟨n.toNat, by omega⟩
      have hfi := births_find (n := q) hbr (by omega)
      obtain ⟨U1, U2⟩ := R.setMap (n := w.drawn) hes hw (MRels.setVal hvp q hms) (clock' := clock) (hbr.modify q _ fun _ => rfl) rfl
      refine ⟨_, ?_, π, upd ρ id (ρ id), ?_, U1, U2, rstep_upd (.inr (.inl rfl))⟩
      · simp only [Instr.entryStore, Sem.run_bind, Result.andThen_ok, getObj_map hw, asInt, asIntOf, Sem.run_pure, List.findIdx?_toArray, hfi, run_setObj_map hw, List.modify_toArray]
      simp only [VRel]
    cases hg
  cases hg
/-- The entry of a key, put anew. -/
theorem entSet_put {eq : P → P → Option Bool} {k z v : P} : ∀ {es : List (P × P)}, (∀ x ∈ es, eq k x.1 = some true → x.1 = k) → entSet (entPut eq k z es) (entAt eq k es) v = mapPut eq k v es
  | [], _ => rfl
  | (k', v') :: es, hk => by
    by_cases he : eq k k' = some true
    · have : k' = k := hk (k', v') (by simp) he
      subst this
      simp [entPut, entAt, mapGet, mapAt, mapPut, he, entSet]
    have ih := entSet_put (z := z) (v := v) (es := es) fun x hx => hk x (by simp [hx])
    have e1 : entPut eq k z ((k', v') :: es) = (k', v') :: entPut eq k z es := by
      simp only [entPut, mapGet, if_neg he]
      cases mapGet eq k es <;> rfl
    have e2 : entAt eq k ((k', v') :: es) = entAt eq k es + 1 := by
      simp only [entAt, mapAt, if_neg he]
      cases hm : mapAt eq k es (0 + 1) with
      | none =>
        cases hm0 : mapAt eq k es 0 with
        | none => rfl
        | some j0 => exact absurd hm (by rw [mapAt_up hm0]; simp)
      | some j =>
        obtain ⟨j', rfl, hj'⟩ := mapAt_shift hm
        rw [hj']; rfl
    rw [e1, e2]
    simp only [entSet, List.modify_succ_cons, mapPut, if_neg he] at ih ⊢
    rw [ih]
end Go.Gh

/- AN OPERATION OF THE MACHINE DOES WHAT THE GHOST OPERATION SAYS. -/
namespace Go.Gh
open Go.RowKit
variable {Pg : Program} {E : Env Pg} {π : PM} {ρ : RM} {h : Nat → Ob} {a : E.α} {S : Nat → Prop} {w : World}

def Yld (E : Env Pg) (π : PM) (ρ : RM) (h : Nat → Ob) (a : E.α) (S : Nat → Prop) (w : World) (d : Nat) (out : Out) (s : Sem Next) : Prop :=
  ∃ nx w' v, s.run Pg w = .ok nx w' ∧ (nx = .value v ∨ (nx = .skip ∧ v = undef)) ∧ Post E π ρ h a S w d out v w'

theorem Yld.of_val {d : Nat} {out : Out} {s : Sem Value} (hx : ∃ r w', s.run Pg w = .ok r w' ∧ Post E π ρ h a S w d out r w') : Yld E π ρ h a S w d out (do pure (.value (← s))) := by
  obtain ⟨r, w', hr, hp⟩ := hx
  exact ⟨.value r, w', r, by simp only [Sem.run_bind, hr, Result.andThen_ok, Sem.run_pure], .inl rfl, hp⟩
theorem Yld.of_unit {d : Nat} {out : Out} {s : Sem Unit} (hx : ∃ w', s.run Pg w = .ok () w' ∧ Post E π ρ h a S w d out undef w') : Yld E π ρ h a S w d out (do s; pure .skip) := by
  obtain ⟨w', hr, hp⟩ := hx
  exact ⟨.skip, w', undef, by simp only [Sem.run_bind, hr, Result.andThen_ok, Sem.run_pure], .inr ⟨rfl, rfl⟩, hp⟩
theorem Yld.of_pure (R : Rel E π ρ h a S w) {d : Nat} {out : Out} {s : Sem Value} (hx : out.put = none ∧ ∃ r, s.run Pg w = .ok r w ∧ VRel π ρ E.yv out.val r) : Yld E π ρ h a S w d out (do pure (.value (← s))) := by
  obtain ⟨hp, r, hr, hv⟩ := hx
  obtain ⟨g, p⟩ := out
  cases hp
  exact Yld.of_val ⟨r, w, hr, Post.value R hv⟩
theorem Yld.const (R : Rel E π ρ h a S w) {d : Nat} {out : Out} {v : Value} (hp : out.put = none) (hv : VRel π ρ E.yv out.val v) : Yld E π ρ h a S w d out (pure (.value v)) := by
  obtain ⟨g, p⟩ := out
  cases hp
  exact ⟨.value v, w, v, Sem.run_pure .., .inl rfl, Post.value R hv⟩

theorem men_ofV (d : Nat) (v : Value) : (ofV v).men d = false := by
  unfold ofV
  split <;> first | rfl | skip
  split <;> first | rfl | skip
  split <;> rfl
theorem mens_zero {t : TypeId} {i : TI} (ht : ti Pg t = some i) (d : Nat) : G.mens d i.zero = false := by
  obtain ⟨_, z, _, _, _, _, _, hz, _⟩ := ti_spec ht
  rw [hz]
  refine mens_iff.2 fun g hg => ?_
  obtain ⟨v, _, rfl⟩ := List.mem_map.1 hg
  exact men_ofV d v

theorem nilOk_run {t : TypeId} {name : String} (hk : nilOk Pg t name = true) (n : Nat) (v : Value) (w : World) : (nilAhead (n + 1) t v name).run Pg w = .ok (some false) w := by
  unfold nilOk at hk
  split at hk
  · rename_i i D hi hD
    split at hk
    · rename_i m hm
      rw [Bool.and_eq_true] at hk
      obtain ⟨hp, hk⟩ := hk
      have hpath : m.path.toList = [] := by
        have : m.path.size = 0 := by simpa [Array.isEmpty] using hp
        exact List.eq_nil_of_length_eq_zero (by simpa using this)
      split at hk
      · rename_i f p hf
        simp only [nilAhead, Sem.run_bind, run_typeInfo w hi, Result.andThen_ok, hm, hpath, followBlind, Sem.run_pure, hf]
        cases p
        · simp only [Sem.run_bind, run_underlying hD, Result.andThen_ok]
          cases D <;> simp [isPtrT] at hk <;> simp
        simp
      cases hk
    cases hk
  cases hk
theorem gnilCheck_ok (R : Rel E π ρ h a S w) {d : Nat} {g : G} {c : Prop} {out : Out} (hg : gnilCheck Pg h g = some (c, out)) (hc : c) {x : Operand} {evv : Operand → Value} {dst ty pos after guard} (hv : VRel π ρ E.yv g (evv x)) :
    Yld E π ρ h a S w d out (execOp evv ⟨dst, .nilCheck x, ty, pos, after, guard⟩) := by
  simp only [execOp]
  unfold gnilCheck at hg
  split at hg <;> simp only [yes, Option.some.injEq, Prod.mk.injEq, reduceCtorEq] at hg
  all_goals
    obtain ⟨hc', rfl⟩ := hg
    have hv0 := hv
    simp only [VRel, PRel] at hv
  · rename_i n t u b
    obtain ⟨as, bs, e, hr, _⟩ := hv
    simp only [PRels, PRel] at hr
    obtain ⟨_, _, rfl, ⟨x, rfl, _⟩, rfl⟩ := hr
    subst hc'
    have hk := nilOk_run (Pg := Pg) hc
    rw [e]
    refine ⟨.value _, w, _, ?_, .inl rfl, Post.value R (e ▸ hv0)⟩
    simp [run_program, Made.depth, hk]
  · rw [hv]; exact .const R rfl (hv ▸ hv0)
  · subst hc'
    obtain ⟨b, n, c, _, e⟩ := hv.2 ((R.isGood hc).2 _ _ _ rfl)
    rw [e]; exact .const R rfl (e ▸ hv0)
  · obtain ⟨b, o, e, _⟩ := hv
    rw [e]; exact .const R rfl (e ▸ hv0)
  · obtain ⟨as, bs, e, _⟩ := hv
    rw [e]; exact .const R rfl (e ▸ hv0)
  · obtain ⟨as, bs, e, _⟩ := hv
    rw [e]; exact .const R rfl (e ▸ hv0)
  · obtain ⟨u, e, _⟩ := hv
    rw [e]; exact .const R rfl (e ▸ hv0)
  obtain ⟨u, e, _⟩ := hv
  rw [e]; exact .const R rfl (e ▸ hv0)

theorem VRels.map_ev {y : Value} {ev : Operand → G} {evv : Operand → Value} (hev : ∀ x, VRel π ρ y (ev x) (evv x)) : ∀ (l : List Operand), VRels π ρ y (l.map ev) (l.map evv)
  | [] => by simp only [List.map_nil, VRels]
  | x :: l => by simp only [List.map_cons, VRels]; exact ⟨_, _, rfl, hev x, VRels.map_ev hev l⟩

theorem gpick_ok {y : Value} {b : Bool} {g1 g2 : G} {v1 v2 : Value} (h1 : VRel π ρ y g1 v1) (h2 : VRel π ρ y g2 v2) : VRel π ρ y (gpick b g1 g2) (if b then v1 else v2) := by
  cases b
  · exact h2
  exact h1

section
variable (R : Rel E π ρ h a S w) {ev : Operand → G} {evv : Operand → Value} (hev : ∀ x, VRel π ρ E.yv (ev x) (evv x)) {d : Nat} (hdn : h d = .none) (hdm : ∀ j, (h j).men d = false) (hmen : ∀ x, (ev x).men d = false)
include R hev hdn hdm hmen

omit hdn hdm hmen in
theorem gsem_len {mu : Bool} {cl : Call} {dst ty pos after guard} {c : Prop} {out : Out} (hb : cl.callee = .builtin .len) (hg : gsem Pg mu d ev h (.call cl) = some (c, out)) (hc : c) : Yld E π ρ h a S w d out (execOp evv ⟨dst, .call cl, ty, pos, after, guard⟩) := by
  obtain ⟨callee, args, argTypes⟩ := cl
  subst hb
  simp only [gsem] at hg
  split at hg
  · rename_i x t hx ht'
    have hx' : args = #[x] := Array.ext' hx
    have ht'' : argTypes = #[t] := Array.ext' ht'
    subst hx' ht''
    split at hg
    · rename_i i hi
      have := glen_ok (ty := ty) R hi hg hc (hev x)
      have := Yld.of_pure (d := d) R this
      simpa [execOp, resolve, invoke, builtin] using this
    cases hg
  cases hg

theorem gsem_append {mu : Bool} {cl : Call} {dst ty pos after guard} {c : Prop} {out : Out} (hb : cl.callee = .builtin .append) (hg : gsem Pg mu d ev h (.call cl) = some (c, out)) (hc : c) : Yld E π ρ h a S w d out (execOp evv ⟨dst, .call cl, ty, pos, after, guard⟩) := by
  obtain ⟨callee, args, argTypes⟩ := cl
  subst hb
  simp only [gsem] at hg
  split at hg
  · rename_i x x' t t' hx ht'
    have hx' : args = #[x, x'] := Array.ext' hx
    have ht'' : argTypes = #[t, t'] := Array.ext' ht'
    subst hx' ht''
    split at hg
    · rename_i i i' hi hi'
      split at hg
      · rename_i e hd
        split at hg
        · rename_i j hj
          have := Yld.of_val (gappend_ok (ty := ty) R hi hi' hd hj hg hc (hev x) (hev x') hdn hdm (hmen x))
          simpa [execOp, resolve, invoke, builtin] using this
        cases hg
      cases hg
    cases hg
  cases hg

omit hdn hdm hmen in
theorem gsem_minmax {mu : Bool} {cl : Call} {dst ty pos after guard} {c : Prop} {out : Out} (hb : cl.callee = .builtin .min ∨ cl.callee = .builtin .max) (hg : gsem Pg mu d ev h (.call cl) = some (c, out)) (hc : c) : Yld E π ρ h a S w d out (execOp evv ⟨dst, .call cl, ty, pos, after, guard⟩) := by
  obtain ⟨callee, ⟨args⟩, argTypes⟩ := cl
  rcases hb with hb | hb <;> (simp only at hb; subst hb)
  · simp only [gsem] at hg
    split at hg
    · rename_i g hm
      cases hg
      have := Yld.of_pure (d := d) (out := ⟨g, none⟩) R ⟨rfl, gmin_ok hm (VRels.map_ev hev args) argTypes ty⟩
      simpa [execOp, resolve, invoke, builtin] using this
    cases hg
  simp only [gsem] at hg
  split at hg
  · rename_i g hm
    cases hg
    have := Yld.of_pure (d := d) (out := ⟨g, none⟩) R ⟨rfl, gmax_ok hm (VRels.map_ev hev args) argTypes ty⟩
    simpa [execOp, resolve, invoke, builtin] using this
  cases hg

omit hdn hdm hmen in
theorem gsem_build {mu : Bool} {t : TypeId} {ps : Array (Nat × Operand)} {dst ty pos after guard} {c : Prop} {out : Out} (hg : gsem Pg mu d ev h (.build t ps) = some (c, out)) (hc : c) : Yld E π ρ h a S w d out (execOp evv ⟨dst, .build t ps, ty, pos, after, guard⟩) := by
  obtain ⟨ps⟩ := ps
  simp only [gsem] at hg
  have hk : (ps.map fun q => (q.1, evv q.2)).map (·.1) = (ps.map fun q => (q.1, ev q.2)).map (·.1) := by simp [Function.comp_def]
  have hr : VRels π ρ E.yv ((ps.map fun q => (q.1, ev q.2)).map (·.2)) ((ps.map fun q => (q.1, evv q.2)).map (·.2)) := by
    have := VRels.map_ev hev (ps.map (·.2))
    simpa [Function.comp_def] using this
  split at hg
  · rename_i i hi
    split at hg
    · rename_i fs hd
      split at hg
      · rename_i pl hpl
        split at hg
        · rename_i c' cs hf
          cases hg
          have := Yld.of_pure (d := d) (out := ⟨mkAgg cs, none⟩) R ⟨rfl, gbuild_ok R hi (.inl ⟨fs, pl, hd, hpl, rfl⟩) hf hc hk hr⟩
          simpa [execOp] using this
        cases hg
      cases hg
    · rename_i m e hd
      split at hg
      · rename_i j hj
        split at hg
        · rename_i c' cs hf
          cases hg
          have := Yld.of_pure (d := d) (out := ⟨mkAgg cs, none⟩) R ⟨rfl, gbuild_ok R hi (.inr ⟨m, e, j, hd, hj, rfl⟩) hf hc hk hr⟩
          simpa [execOp] using this
        cases hg
      cases hg
    cases hg
  cases hg

theorem gsem_buildSlice {mu : Bool} {t : TypeId} {n : Nat} {ps : Array (Nat × Operand)} {dst ty pos after guard} {c : Prop} {out : Out} (hg : gsem Pg mu d ev h (.buildSlice t n ps) = some (c, out)) (hc : c) : Yld E π ρ h a S w d out (execOp evv ⟨dst, .buildSlice t n ps, ty, pos, after, guard⟩) := by
  obtain ⟨ps⟩ := ps
  simp only [gsem] at hg
  split at hg
  · rename_i i hi
    split at hg
    · rename_i e hd
      split at hg
      · rename_i j hj
        split at hg
        · rename_i hp
          have hr := VRels.map_ev hev (ps.map (·.2))
          have hn : n = (ps.map fun q => ev q.2).length := by
            have := congrArg List.length hp
            simpa using this.symm
          have hgs : (ps.map (·.2)).map ev = ps.map fun q => ev q.2 := by simp [Function.comp_def]
          rw [hgs] at hr
          have := Yld.of_val (gbuildSlice_ok R hi hd hj hg hc hn hr hdn hdm (mens_iff.2 fun g hg => by obtain ⟨q, _, rfl⟩ := List.mem_map.1 hg; exact hmen _))
          have hz : (List.range' 0 n).zip ((ps.map (·.2)).map evv) = ps.map fun q => (q.1, evv q.2) := by
            rw [← List.range_eq_range', ← hp]
            simp [List.zip_map', Function.comp_def]
          rw [hz] at this
          simpa [execOp] using this
        cases hg
      cases hg
    cases hg
  cases hg

omit hdn hdm hmen in
theorem gsem_slice {mu : Bool} {t : TypeId} {x : Operand} {lo hi mx : Option Operand} {dst ty pos after guard} {c : Prop} {out : Out} (hg : gsem Pg mu d ev h (.slice t x lo hi mx) = some (c, out)) (hc : c) : Yld E π ρ h a S w d out (execOp evv ⟨dst, .slice t x lo hi mx, ty, pos, after, guard⟩) := by
  have vb : ∀ (o : Option Operand) g, o.map ev = some g → ∃ v, o.map evv = some v ∧ VRel π ρ E.yv g v := fun o g ho => by
    cases o with
    | none => simp at ho
    | some x => simp only [Option.map_some, Option.some.injEq] at ho; exact ⟨_, rfl, ho ▸ hev x⟩
  have nb : ∀ (o : Option Operand), o.map ev = none → o.map evv = none := fun o ho => by
    cases o with
    | none => rfl
    | some x => simp at ho
  simp only [gsem] at hg
  split at hg
  · rename_i i hi'
    split at hg
    · rename_i e hd
      split at hg
      · rename_i j hj
        exact Yld.of_pure R (gslice_ok (hi := hi.map evv) (lo := lo.map evv) R hi' (.inl ⟨hd, hj⟩) (fun _ => rfl) hg hc (hev x) (vb lo) (vb hi) (nb lo) (nb hi))
      cases hg
    · rename_i m e hd
      split at hg
      · rename_i j hj
        exact Yld.of_pure R (gslice_ok (hi := hi.map evv) (lo := lo.map evv) R hi' (.inr (.inl ⟨m, hd, hj⟩)) (fun _ => rfl) hg hc (hev x) (vb lo) (vb hi) (nb lo) (nb hi))
      cases hg
    · rename_i hd
      exact Yld.of_pure R (gslice_ok (j := i) (e := 0) (hi := hi.map evv) (lo := lo.map evv) R hi' (.inr (.inr hd)) (fun hx => by
        rcases hx with ⟨e, he⟩ | ⟨m, e, he⟩ <;> (rw [hd] at he; cases he)) hg hc (hev x) (vb lo) (vb hi) (nb lo) (nb hi))
    cases hg
  cases hg

theorem gsem_ok {mu : Bool} {dst op ty pos after guard} {c : Prop} {out : Out} (hg : gsem Pg mu d ev h op = some (c, out)) (hc : c) : Yld E π ρ h a S w d out (execOp evv ⟨dst, op, ty, pos, after, guard⟩) := by
  cases op
  case call cl =>
    obtain ⟨callee, args, argTypes⟩ := cl
    cases callee with
    | builtin b =>
      cases b
      case append => exact gsem_append R hev hdn hdm hmen rfl hg hc
      case len => exact gsem_len R hev rfl hg hc
      case min => exact gsem_minmax R hev (.inl rfl) hg hc
      case max => exact gsem_minmax R hev (.inr rfl) hg hc
      all_goals simp [gsem] at hg
    | invoke r n => simp [gsem] at hg
    | value f => simp [gsem] at hg
  case build t ps => exact gsem_build R hev hg hc
  case buildSlice t n ps => exact gsem_buildSlice R hev hdn hdm hmen hg hc
  case slice t x lo hi mx => exact gsem_slice R hev hg hc
  case nilCheck x => exact gnilCheck_ok R hg hc (hev x)
  case move x =>
    simp only [gsem, yes, Option.some.injEq, Prod.mk.injEq] at hg
    obtain ⟨-, rfl⟩ := hg
    exact .const R rfl (hev x)
  case assign x =>
    simp only [gsem, yes, Option.some.injEq, Prod.mk.injEq] at hg
    obtain ⟨-, rfl⟩ := hg
    exact .const R rfl (hev x)
  case pick x y z =>
    simp only [gsem] at hg
    split at hg
    · rename_i t ht
      simp only [yes, Option.some.injEq, Prod.mk.injEq] at hg
      obtain ⟨-, rfl⟩ := hg
      have hx := hev x
      rw [ht] at hx
      simp only [VRel, PRel] at hx
      have := Yld.const (d := d) (out := ⟨gpick t (ev y) (ev z), none⟩) R rfl (gpick_ok (b := t) (hev y) (hev z))
      simpa [execOp, hx, asBool] using this
    cases hg
  case alloc t =>
    simp only [gsem] at hg
    split at hg
    · rename_i i hi
      cases hg
      exact Yld.of_val (alloc_ok R hi hc hdn hdm (mens_zero hi d))
    cases hg
  case box t x =>
    simp only [gsem] at hg
    split at hg
    · exact Yld.of_val (gbox_ok R t hdn hdm hg hc (hev x) (hmen x))
    cases hg
  case load t x =>
    simp only [gsem] at hg
    split at hg
    · rename_i i hi
      exact Yld.of_pure R (gload_ok R hi hg hc (hev x))
    cases hg
  case store t x v =>
    simp only [gsem] at hg
    split at hg
    · rename_i i hi
      exact Yld.of_unit (gstore_ok R hi hg hc (hev x) (hev v))
    cases hg
  case binOp op t x y t2 =>
    simp only [gsem] at hg
    split at hg
    · rename_i i hi
      cases hb : gbinAt Pg t i.desc op x y (ev x) (ev y) with
      | none => rw [hb] at hg; cases hg
      | some q =>
        obtain ⟨c', g⟩ := q
        rw [hb] at hg
        cases hg
        obtain ⟨⟨r, hr, hv⟩, he⟩ := gbinAt_ok hi hb hc (hev x) (hev y) w
        refine Yld.of_pure (out := ⟨g, none⟩) R ⟨rfl, r, ?_, hv⟩
        simp only [Sem.run_bind, he, Result.andThen_ok, hr]
    cases hg
  case unOp op t x =>
    simp only [gsem] at hg
    cases hb : gunOp op (ev x) with
    | none => rw [hb] at hg; cases hg
    | some q =>
      obtain ⟨c', g⟩ := q
      rw [hb] at hg
      cases hg
      exact Yld.of_pure (out := ⟨g, none⟩) R ⟨rfl, gunOp_ok hb hc (hev x) w⟩
  case convert s t x =>
    simp only [gsem] at hg
    split at hg
    · rename_i i j hi hj
      exact Yld.of_pure R (gconvert_ok hi hj hg hc (hev x) w)
    cases hg
  case makeInterface t x =>
    simp only [gsem] at hg
    split at hg
    · rename_i i hi
      split at hg
      · cases hg
      rename_i hI
      simp only [yes, Option.some.injEq, Prod.mk.injEq] at hg
      obtain ⟨-, rfl⟩ := hg
      obtain ⟨_, _, hund, _⟩ := ti_spec hi
      refine Yld.of_pure (out := ⟨mkIface t (ev x), none⟩) R ⟨rfl, .iface t (evv x), ?_, VRel.mkIface (hev x)⟩
      simp only [Instr.makeInterface, Sem.run_bind, run_underlying hund, Result.andThen_ok]
      cases hD : i.desc <;> rw [hD] at hI <;> simp [isIfaceD] at hI <;> rfl
    cases hg
  case makeFunc f as bs =>
    simp only [gsem, yes, Option.some.injEq, Prod.mk.injEq] at hg
    obtain ⟨-, rfl⟩ := hg
    obtain ⟨as⟩ := as
    obtain ⟨bs⟩ := bs
    refine Yld.of_pure (out := ⟨mkFn f (as.map ev) (bs.map ev), none⟩) R ⟨rfl, .func f ⟨as.map evv⟩ ⟨bs.map evv⟩, ?_, VRel.mkFn (VRels.map_ev hev as) (VRels.map_ev hev bs)⟩
    simp [Instr.makeFunc]
  case makeMap t r =>
    simp only [gsem] at hg
    split at hg
    · cases hg
      exact Yld.of_val (makeMap_ok R t hdn hdm)
    cases hg
  case makeSlice t l cp =>
    simp only [gsem] at hg
    split at hg
    · rename_i i hi
      split at hg
      · rename_i e hd
        split at hg
        · rename_i j hj
          split at hg
          · rename_i hlc
            cases hl : intOf (ev l) with
            | none =>
              have : gmakeSlice j d (ev l) = none := by
                unfold gmakeSlice
                split
                · rename_i he; rw [he] at hl; simp [intOf] at hl
                rfl
              rw [this] at hg; cases hg
            | some n => exact Yld.of_val (makeSlice_ok R hi hd hj hdn hdm hl (hlc ▸ hl) hg hc (hev l) (hev cp))
          cases hg
        cases hg
      cases hg
    cases hg
  case fieldAddr t x f =>
    simp only [gsem] at hg
    split at hg
    · rename_i i hi
      split at hg
      · rename_i fs hd
        split at hg
        · rename_i fd hf
          split at hg
          · rename_i j hj
            split at hg
            · cases hg
            rename_i h0
            exact Yld.of_pure R (gfieldAddr_ok hi hd hf hj h0 hg hc (hev x))
          cases hg
        cases hg
      cases hg
    cases hg
  case field t x f =>
    simp only [gsem] at hg
    split at hg
    · rename_i i hi
      split at hg
      · rename_i fs hd
        split at hg
        · rename_i fd hf
          split at hg
          · rename_i j hj
            exact Yld.of_pure R (gfield_ok hi hd hf hj hg hc (hev x))
          cases hg
        cases hg
      cases hg
    cases hg
  case indexAddr t x ix =>
    simp only [gsem] at hg
    split at hg
    · rename_i i n hi hn
      split at hg
      · rename_i e hd
        split at hg
        · rename_i j hj
          exact Yld.of_pure R (gindexAddr_ok R hi hj (.inl hd) hn hg hc (hev x) (hev ix))
        cases hg
      · rename_i m e hd
        split at hg
        · rename_i j hj
          exact Yld.of_pure R (gindexAddr_ok R hi hj (.inr ⟨m, hd⟩) hn hg hc (hev x) (hev ix))
        cases hg
      cases hg
    cases hg
  case index t x ix =>
    simp only [gsem] at hg
    split at hg
    · rename_i i n hi hn
      split at hg
      · rename_i m e hd
        split at hg
        · rename_i j hj
          exact Yld.of_pure R (gindex_ok hi (.inl ⟨m, hd, hj⟩) hn hg hc (hev x) (hev ix))
        cases hg
      · rename_i hd
        exact Yld.of_pure R (gindex_ok (e := 0) (j := i) hi (.inr hd) hn hg hc (hev x) (hev ix))
      cases hg
    cases hg
  case lookup t m k ok =>
    simp only [gsem] at hg
    split at hg
    · rename_i i hi
      split at hg
      · rename_i kt vt hd
        split at hg
        · rename_i z hz
          exact Yld.of_pure R (lookup_ok R hi hd hz hg hc (hev k) (hev m))
        cases hg
      cases hg
    cases hg
  case mapUpdate t m k v =>
    simp only [gsem] at hg
    split at hg
    · rename_i i hi
      split at hg
      · rename_i kt vt hd
        exact Yld.of_unit (mapUpdate_ok R hi hd hg hc (hev k) (hev v) (hev m))
      cases hg
    cases hg
  case mapEntry t m k =>
    simp only [gsem] at hg
    split at hg
    · rename_i i hi
      split at hg
      · rename_i kt vt hd
        split at hg
        · rename_i z hz
          exact Yld.of_val (mapEntry_ok R hi hd hz hg hc (hev k) (hev m))
        cases hg
      cases hg
    cases hg
  case entryStore t m s v =>
    simp only [gsem] at hg
    exact Yld.of_unit (entryStore_ok R hg hc (hev s) (hev v) (hev m))
  case typeAssert x xt t ok =>
    simp only [gsem] at hg
    split at hg
    · rename_i i hi
      split at hg
      · cases hg
      rename_i hI
      exact Yld.of_pure R (typeAssert_ok hi (by simpa using hI) hg (hev x)).2
    cases hg
  case extract x i =>
    simp only [gsem] at hg
    exact Yld.of_pure R (gextract_ok hg (hev x)).2
  all_goals simp [gsem] at hg
end
end Go.Gh

/- What an operation yields leads to objects that are there. -/
namespace Go.Gh
open Go.RowKit

theorem mens_true {id : Nat} : ∀ {gs : List G}, G.mens id gs = true ↔ ∃ g ∈ gs, g.men id = true
  | [] => by simp [G.mens]
  | g :: gs => by simp [G.mens, mens_true (gs := gs)]
theorem mens_take {id n : Nat} {gs : List G} (h : G.mens id (gs.take n) = true) : G.mens id gs = true := by
  obtain ⟨g, hg, hm⟩ := mens_true.1 h
  exact mens_true.2 ⟨g, List.mem_of_mem_take hg, hm⟩
theorem mens_drop {id n : Nat} {gs : List G} (h : G.mens id (gs.drop n) = true) : G.mens id gs = true := by
  obtain ⟨g, hg, hm⟩ := mens_true.1 h
  exact mens_true.2 ⟨g, List.mem_of_mem_drop hg, hm⟩
theorem mens_splice {id off : Nat} {cs vs : List G} (h : G.mens id (splice cs off vs) = true) : G.mens id cs = true ∨ G.mens id vs = true := by
  obtain ⟨g, hg, hm⟩ := mens_true.1 h
  rcases mem_splice hg with h1 | h1
  · exact .inl (mens_true.2 ⟨g, h1, hm⟩)
  exact .inr (mens_true.2 ⟨g, h1, hm⟩)
theorem mens_get {id i : Nat} {gs : List G} {g : G} (h : gs[i]? = some g) (hm : g.men id = true) : G.mens id gs = true :=
  mens_true.2 ⟨g, List.mem_of_getElem? h, hm⟩
theorem men_cells {id : Nat} {g : G} {gs : List G} (h : g.cells = some gs) (hm : G.mens id gs = true) : g.men id = true := by
  cases g <;> simp only [G.cells, reduceCtorEq, Option.some.injEq] at h
  case p x => cases x <;> simp only [G.cells, reduceCtorEq, Option.some.injEq] at h <;> subst h <;> first | (rw [mens_map_p] at hm; cases hm) | (simp [G.mens, G.men] at hm)
  case agg cs => subst h; simpa [G.men] using hm
  all_goals (subst h; simpa [G.mens] using hm)
theorem men_mkAgg {id : Nat} {cs : List G} (h : (mkAgg cs).men id = true) : G.mens id cs = true := by
  unfold mkAgg at h
  split at h
  · simp [G.men] at h
  simpa [G.men] using h
theorem men_mkTuple {id : Nat} {cs : List G} (h : (mkTuple cs).men id = true) : G.mens id cs = true := by
  unfold mkTuple at h
  split at h
  · simp [G.men] at h
  simpa [G.men] using h
theorem men_mkIface {id : Nat} {t : TypeId} {g : G} (h : (mkIface t g).men id = true) : g.men id = true := by
  unfold mkIface at h
  split at h
  · simp [G.men] at h
  simpa [G.men] using h
theorem men_mkFn {id : Nat} {f : Fn} {a b : List G} (h : (mkFn f a b).men id = true) : G.mens id a = true ∨ G.mens id b = true := by
  unfold mkFn at h
  split at h
  · split at h
    · simp [G.men] at h
    simpa [G.men] using h
  simpa [G.men] using h

theorem arith_p {k : IntKind} {n : Int} {c0 c : Prop} {g : G} (hg : arith k n c0 = some (c, g)) : ∃ p, g = .p p := by
  unfold arith at hg
  split at hg <;> (cases hg; exact ⟨_, rfl⟩)
theorem gint_p {op : BinOp} {k : IntKind} {a b : Int} {c : Prop} {g : G} (hg : gint op k a b = some (c, g)) : ∃ p, g = .p p := by
  unfold gint at hg
  split at hg <;> first | exact arith_p hg | (cases hg; exact ⟨_, rfl⟩) | cases hg
theorem gshift_p {op : BinOp} {k : IntKind} {a b : Int} {c : Prop} {g : G} (hg : gshift op k a b = some (c, g)) : ∃ p, g = .p p := by
  unfold gshift at hg
  split at hg <;> first | (cases hg; exact ⟨_, rfl⟩) | cases hg
theorem gbin_p {D : TypeDesc} {op : BinOp} {x y : G} {c : Prop} {g : G} (hg : gbin D op x y = some (c, g)) : ∃ p, g = .p p := by
  unfold gbin at hg
  split at hg
  · split at hg
    · exact gshift_p hg
    · exact gshift_p hg
    split at hg
    · exact gint_p hg
    cases hg
  · split at hg
    · split at hg <;> first | (cases hg; exact ⟨_, rfl⟩) | cases hg
    cases hg
  · split at hg <;> first | (cases hg; exact ⟨_, rfl⟩) | cases hg
  · split at hg
    · split at hg <;> first | (cases hg; exact ⟨_, rfl⟩) | cases hg
    cases hg
  cases hg
theorem gbinAt_p {Pg : Program} {t : TypeId} {D : TypeDesc} {op : BinOp} {x y : Operand} {a b : G} {c : Prop} {g : G} (hg : gbinAt Pg t D op x y a b = some (c, g)) : ∃ p, g = .p p := by
  unfold gbinAt at hg
  split at hg
  · split at hg
    · split at hg
      · split at hg <;> first | (cases hg; exact ⟨_, rfl⟩) | cases hg
      cases hg
    cases hg
  unfold gnilEq at hg
  split at hg
  · split at hg
    · split at hg <;> first | (cases hg; exact ⟨_, rfl⟩) | cases hg
    cases hg
  exact gbin_p hg
theorem gminL_p : ∀ {gs : List G} {a : Int} {g : G}, gminL a gs = some g → ∃ p, g = .p p
  | [], a, g, h => by simp only [gminL, Option.some.injEq] at h; exact ⟨_, h.symm⟩
  | x :: gs, a, g, h => by
    unfold gminL at h
    split at h
    · cases h; exact ⟨_, rfl⟩
    · rename_i e; cases e; exact gminL_p h
    cases h
theorem gmaxL_p : ∀ {gs : List G} {a : Int} {g : G}, gmaxL a gs = some g → ∃ p, g = .p p
  | [], a, g, h => by simp only [gmaxL, Option.some.injEq] at h; exact ⟨_, h.symm⟩
  | x :: gs, a, g, h => by
    unfold gmaxL at h
    split at h
    · cases h; exact ⟨_, rfl⟩
    · rename_i e; cases e; exact gmaxL_p h
    cases h
theorem gmin_p {gs : List G} {g : G} (h : gmin gs = some g) : ∃ p, g = .p p := by
  unfold gmin at h
  split at h
  · exact gminL_p h
  cases h
theorem gmax_p {gs : List G} {g : G} (h : gmax gs = some g) : ∃ p, g = .p p := by
  unfold gmax at h
  split at h
  · exact gmaxL_p h
  cases h

theorem beqS {a b : Nat} (h : (a == b) = true) : b = a := (beq_iff_eq.1 h).symm

def Lv (L : Nat → Prop) (out : Out) : Prop :=
  (∀ id, out.val.men id = true → L id ∨ ∃ ob, out.put = some (id, ob)) ∧ (∀ p, out.put = some p → p.2 ≠ .none ∧ ∀ id, p.2.men id = true → L id ∨ id = p.1)

variable {Pg : Program} {h : Nat → Ob} {c : Prop} {out : Out} {L : Nat → Prop}
theorem Lv.val {g : G} (hg : ∀ id, g.men id = true → L id) : Lv L ⟨g, none⟩ := ⟨fun id hm => .inl (hg id hm), fun _ e => by cases e⟩
theorem Lv.p {v : P} : Lv L ⟨.p v, none⟩ := .val fun id hm => by simp [G.men] at hm
theorem Lv.put {g : G} {i : Nat} {ob : Ob} (ho : ob ≠ .none) (hg : ∀ id, g.men id = true → L id ∨ id = i) (hb : ∀ id, ob.men id = true → L id ∨ id = i) : Lv L ⟨g, some (i, ob)⟩ :=
  ⟨fun id hm => (hg id hm).imp (fun x => x) fun e => ⟨ob, by rw [e]⟩, fun p e => by cases e; exact ⟨ho, hb⟩⟩
theorem putH_ne {i : Nat} {ob : Ob} (ho : ob ≠ .none) {id : Nat} (hi : h id ≠ .none ∨ id = i) : putH h (some (i, ob)) id ≠ .none := by
  simp only [putH, upd]
  split
  · exact ho
  rcases hi with hi | hi
  · exact hi
  contradiction

section
variable (hh : ∀ j id, (h j).men id = true → L id)
include hh

theorem gload_lv {i : TI} {g : G} (hg : gload i h g = some (c, out)) (hm : ∀ id, g.men id = true → L id) : Lv L out := by
  unfold gload at hg
  split at hg
  · rename_i id off
    split at hg
    · rename_i cs fz ho
      have hcs : ∀ id', G.mens id' cs = true → L id' := fun id' hx => hh id id' (by rw [ho]; exact hx)
      split at hg
      · cases hg; exact .val fun id' hx => hcs id' (mens_drop (mens_take (men_mkAgg hx)))
      split at hg
      · rename_i g' hg'
        simp only [yes, Option.some.injEq, Prod.mk.injEq] at hg; obtain ⟨-, rfl⟩ := hg
        exact .val fun id' hx => hcs id' (mens_get hg' hx)
      cases hg
    cases hg
  · rename_i cs
    simp only [G.men] at hm
    split at hg
    · cases hg; exact .val fun id' hx => hm id' (mens_take (men_mkAgg hx))
    split at hg
    · rename_i g' hg'
      simp only [yes, Option.some.injEq, Prod.mk.injEq] at hg; obtain ⟨-, rfl⟩ := hg
      exact .val fun id' hx => hm id' (mens_get hg' hx)
    cases hg
  · split at hg
    · split at hg
      · split at hg
        · cases hg; exact .p
        cases hg
      split at hg
      · cases hg; exact .p
      cases hg
    cases hg
  cases hg

theorem gstore_lv {i : TI} {v g : G} (hg : gstore i h v g = some (c, out)) (hv : ∀ id, v.men id = true → L id) : Lv L out := by
  unfold gstore at hg
  split at hg
  · rename_i id off
    split at hg
    · rename_i cs fz ho
      have hcs : ∀ id', G.mens id' cs = true → L id' := fun id' hx => hh id id' (by rw [ho]; exact hx)
      split at hg
      · split at hg
        · rename_i vs hvs
          cases hg
          refine .put (by simp) (fun id' hx => by simp [G.men] at hx) fun id' hx => .inl ?_
          rcases mens_splice hx with h1 | h1
          · exact hcs id' h1
          exact hv id' (men_cells hvs h1)
        cases hg
      cases hg
      refine .put (by simp) (fun id' hx => by simp [G.men] at hx) fun id' hx => .inl ?_
      obtain ⟨g', hg', hm'⟩ := mens_true.1 hx
      rcases List.mem_or_eq_of_mem_set hg' with h1 | h1
      · exact hcs id' (mens_true.2 ⟨g', h1, hm'⟩)
      subst h1; exact hv id' hm'
    cases hg
  · split at hg
    · split at hg
      · split at hg
        · cases hg
          exact .put (by simp) (fun id' hx => by simp [G.men] at hx) fun id' hx => by simp [Ob.men] at hx
        cases hg
      split at hg
      · cases hg
        exact .put (by simp) (fun id' hx => by simp [G.men] at hx) fun id' hx => by simp [Ob.men] at hx
      cases hg
    cases hg
  cases hg

omit hh in
theorem gfill_men {place : Nat → Option (Nat × Nat)} : ∀ {qs : List (Nat × G)} {cs : List G} {c : Prop} {r : List G}, gfill place h cs qs = some (c, r) → ∀ id, G.mens id r = true → G.mens id cs = true ∨ ∃ q ∈ qs, q.2.men id = true
  | [], cs, c, r, hf, id, hm => by simp only [gfill, Option.some.injEq, Prod.mk.injEq] at hf; obtain ⟨-, rfl⟩ := hf; exact .inl hm
  | (i, v) :: qs, cs, c, r, hf, id, hm => by
    simp only [gfill] at hf
    split at hf
    · rename_i off n vs _ hvs
      split at hf
      · rename_i c' r' hf'
        cases hf
        rcases gfill_men hf' id hm with h1 | ⟨q, hq, h1⟩
        · rcases mens_splice h1 with h2 | h2
          · exact .inl h2
          exact .inr ⟨(i, v), by simp, men_cells hvs h2⟩
        exact .inr ⟨q, by simp [hq], h1⟩
      cases hf
    cases hf

omit hh in
theorem gslice_lv {D : TypeDesc} {sz : Nat} {lo hi : Option G} {g : G} (hg : gslice D sz h lo hi g = some (c, out)) (hm : ∀ id, g.men id = true → L id) : Lv L out := by
  unfold gslice at hg
  split at hg
  · split at hg
    · split at hg
      · cases hg; exact .p
      cases hg
    cases hg
  · split at hg
    · split at hg
      · split at hg
        · cases hg; exact .p
        cases hg
      cases hg
    cases hg
  · split at hg
    · split at hg
      · cases hg; exact .val fun id' hx => hm id' (by simpa [G.men] using hx)
      cases hg
    cases hg
  · split at hg
    · split at hg
      · cases hg; exact .val fun id' hx => hm id' (by simpa [G.men] using hx)
      cases hg
    cases hg
  · split at hg
    · split at hg
      · cases hg; exact .p
      cases hg
    cases hg
  cases hg

omit hh in
theorem gindexAddr_lv {D : TypeDesc} {sz : Nat} {n : Int} {g : G} (hg : gindexAddr D sz h n g = some (c, out)) (hm : ∀ id, g.men id = true → L id) : Lv L out := by
  have key : ∀ {xs : List P} {c0 : Prop}, gelem sz xs n c0 = some (c, out) → Lv L out := fun {xs c0} hx => by
    unfold gelem at hx
    split at hx
    · cases hx
      exact .val fun id' hy => by
        rw [G.men, mens_map_p] at hy; cases hy
    cases hx
  unfold gindexAddr at hg
  split at hg
  · split at hg
    · cases hg; exact .val fun id' hx => hm id' (by simpa [G.men] using hx)
    cases hg
  · split at hg
    · cases hg; exact .val fun id' hx => hm id' (by simp only [G.men] at hx ⊢; exact mens_drop hx)
    cases hg
  · split at hg
    · exact key hg
    cases hg
  · split at hg
    · split at hg
      · exact key hg
      · cases hg; exact .val fun id' hx => hm id' (by simpa [G.men] using hx)
      cases hg
    cases hg
  · split at hg
    · cases hg; exact .val fun id' hx => hm id' (by simpa [G.men] using hx)
    cases hg
  cases hg

omit hh in
theorem zeroG_men {t : TypeId} {i : TI} (ht : ti Pg t = some i) {z : G} (hz : zeroG i = some z) (id : Nat) : z.men id = false := by
  have h0 := mens_zero ht id
  unfold zeroG at hz
  split at hz
  · cases hz
    cases hm : (mkAgg i.zero).men id with
    | false => rfl
    | true => rw [men_mkAgg hm] at h0; cases h0
  split at hz
  · rename_i g hg
    cases hz
    rw [hg] at h0
    simpa [G.mens] using h0
  cases hz

omit hh in
theorem gappend_lv {D : TypeDesc} {e : TypeId} {sz bytes : Nat} {mu : Bool} {d : Nat} {b s : G} (hg : gappend D e sz bytes mu d h b s = some (c, out)) (hm : ∀ id, b.men id = true → L id) : Lv L out := by
  unfold gappend at hg
  split at hg
  · split at hg
    · cases hg
      exact .put (by simp) (fun id' hx => .inr (by simp only [G.men] at hx; exact beqS hx)) fun id' hx => by simp [Ob.men] at hx
    · split at hg
      · cases hg
        exact .put (by simp) (fun id' hx => .inl (hm id' (by simpa [G.men] using hx))) fun id' hx => by simp [Ob.men] at hx
      cases hg
    cases hg
  cases hg

theorem gsem_lv {mu : Bool} {d : Nat} {ev : Operand → G} {op : Op} (hm : ∀ x id, (ev x).men id = true → L id) (hg : gsem Pg mu d ev h op = some (c, out)) : Lv L out := by
  cases op <;> simp only [gsem, reduceCtorEq] at hg
  case move x => simp only [yes, Option.some.injEq, Prod.mk.injEq] at hg; obtain ⟨-, rfl⟩ := hg; exact .val (hm x)
  case assign x => simp only [yes, Option.some.injEq, Prod.mk.injEq] at hg; obtain ⟨-, rfl⟩ := hg; exact .val (hm x)
  case pick x y z =>
    split at hg
    · rename_i t _
      simp only [yes, Option.some.injEq, Prod.mk.injEq] at hg; obtain ⟨-, rfl⟩ := hg
      cases t
      · exact .val (hm z)
      exact .val (hm y)
    cases hg
  case alloc t =>
    split at hg
    · rename_i i hi
      cases hg
      exact .put (by simp) (fun id' hx => .inr (by simp only [G.men] at hx; exact beqS hx)) fun id' hx => by
        simp only [Ob.men] at hx; rw [mens_zero hi] at hx; cases hx
    cases hg
  case box t x =>
    split at hg
    · unfold gbox at hg
      split at hg
      · rename_i vs hvs
        cases hg
        exact .put (by simp) (fun id' hx => .inr (by simp only [G.men] at hx; exact beqS hx)) fun id' hx => .inl (hm x id' (men_cells hvs hx))
      cases hg
    cases hg
  case build t ps =>
    split at hg
    · rename_i i hi
      have key : ∀ {place : Nat → Option (Nat × Nat)} {c' : Prop} {cs : List G}, gfill place h i.zero (ps.toList.map fun q => (q.1, ev q.2)) = some (c', cs) → Lv L ⟨mkAgg cs, none⟩ := fun hf => .val fun id' hx => by
        rcases gfill_men hf id' (men_mkAgg hx) with h1 | ⟨q, hq, h1⟩
        · rw [mens_zero hi] at h1; cases h1
        obtain ⟨q', _, rfl⟩ := List.mem_map.1 hq
        exact hm _ _ h1
      split at hg
      · split at hg
        · split at hg
          · rename_i hf; cases hg; exact key hf
          cases hg
        cases hg
      · split at hg
        · split at hg
          · rename_i hf; cases hg; exact key hf
          cases hg
        cases hg
      cases hg
    cases hg
  case buildSlice t n ps =>
    split at hg
    · split at hg
      · split at hg
        · split at hg
          · unfold gbuildSlice at hg
            split at hg
            · cases hg
              exact .put (by simp) (fun id' hx => .inr (by simp only [G.men] at hx; exact beqS hx)) fun id' hx => by simp [Ob.men] at hx
            cases hg
            refine .put (by simp) (fun id' hx => .inr (by simp only [G.men] at hx; exact beqS hx)) fun id' hx => ?_
            simp only [Ob.men] at hx
            rw [← Bool.not_eq_false, mens_iff] at hx
            simp only [Classical.not_forall] at hx
            obtain ⟨g, hg1, hg2⟩ := hx
            obtain ⟨q, _, rfl⟩ := List.mem_map.1 hg1
            exact .inl (hm _ id' (by simpa using hg2))
          cases hg
        cases hg
      cases hg
    cases hg
  case load t x =>
    split at hg
    · exact gload_lv hh hg (hm x)
    cases hg
  case store t x v =>
    split at hg
    · exact gstore_lv hh hg (hm v)
    cases hg
  case nilCheck x =>
    unfold gnilCheck at hg
    have hx := hm x
    split at hg <;> simp only [yes, Option.some.injEq, Prod.mk.injEq, reduceCtorEq] at hg
    all_goals
      obtain ⟨-, rfl⟩ := hg
      rename_i he
      rw [he] at hx
      exact .val hx
  case binOp op t x y t2 =>
    split at hg
    · rename_i i hi
      cases hb : gbinAt Pg t i.desc op x y (ev x) (ev y) with
      | none => rw [hb] at hg; cases hg
      | some q =>
        obtain ⟨c', g⟩ := q
        rw [hb] at hg
        cases hg
        exact .val fun id' hx => by
          have : ∀ b : Bool, (G.p (.bool b)).men id' = false := fun b => rfl
          exfalso
          have key : ∀ g, (∃ p, g = G.p p) → g.men id' = true → False := fun g ⟨p, e⟩ hx => by subst e; simp [G.men] at hx
          refine key g ?_ hx
          exact gbinAt_p hb
    cases hg
  case unOp op t x =>
    cases hb : gunOp op (ev x) with
    | none => rw [hb] at hg; cases hg
    | some q =>
      obtain ⟨c', g⟩ := q
      rw [hb] at hg
      cases hg
      have : ∃ p, g = .p p := by
        unfold gunOp at hb
        split at hb
        · split at hb
          · cases hb; exact ⟨_, rfl⟩
          cases hb
        · split at hb
          · exact arith_p hb
          cases hb
        cases hb
      obtain ⟨p, rfl⟩ := this
      exact .p
  case convert s t x =>
    split at hg
    · unfold gconvert at hg
      split at hg
      · split at hg
        · cases hg; exact .p
        · cases hg; exact .p
        cases hg
      · split at hg
        · simp only [yes, Option.some.injEq, Prod.mk.injEq] at hg; obtain ⟨-, rfl⟩ := hg; exact .p
        cases hg
      cases hg
    cases hg
  case makeInterface t x =>
    split at hg
    · split at hg
      · cases hg
      simp only [yes, Option.some.injEq, Prod.mk.injEq] at hg; obtain ⟨-, rfl⟩ := hg
      exact .val fun id' hx => hm x id' (men_mkIface hx)
    cases hg
  case makeFunc f as bs =>
    simp only [yes, Option.some.injEq, Prod.mk.injEq] at hg; obtain ⟨-, rfl⟩ := hg
    refine .val fun id' hx => ?_
    rcases men_mkFn hx with h1 | h1
    · obtain ⟨g, hg, h2⟩ := mens_true.1 h1
      obtain ⟨x, _, rfl⟩ := List.mem_map.1 hg
      exact hm x id' h2
    obtain ⟨g, hg, h2⟩ := mens_true.1 h1
    obtain ⟨x, _, rfl⟩ := List.mem_map.1 hg
    exact hm x id' h2
  case makeMap t r =>
    split at hg
    · cases hg
      exact .put (by simp) (fun id' hx => .inr (by simp only [G.men] at hx; exact beqS hx)) fun id' hx => by simp [Ob.men] at hx
    cases hg
  case makeSlice t l cp =>
    split at hg
    · split at hg
      · split at hg
        · rename_i j hj
          split at hg
          · unfold gmakeSlice at hg
            split at hg
            · cases hg
              refine .put (by simp) (fun id' hx => .inr (by simp only [G.men] at hx; exact beqS hx)) fun id' hx => ?_
              obtain ⟨g, hg, h2⟩ := mens_true.1 hx
              obtain ⟨q, _, rfl⟩ := List.mem_map.1 hg
              exfalso
              have h0 := mens_zero hj id'
              rw [List.getD_eq_getElem?_getD] at h2
              cases hq : j.zero[q % j.size]? with
              | none => rw [hq] at h2; simp [G.men] at h2
              | some g' => rw [hq] at h2; rw [mens_get hq (by simpa using h2)] at h0; cases h0
            cases hg
          cases hg
        cases hg
      cases hg
    cases hg
  case slice t x lo hi mx =>
    split at hg
    · split at hg
      · split at hg
        · exact gslice_lv hg (hm x)
        cases hg
      · split at hg
        · exact gslice_lv hg (hm x)
        cases hg
      · exact gslice_lv hg (hm x)
      cases hg
    cases hg
  case fieldAddr t x f =>
    split at hg
    · split at hg
      · split at hg
        · split at hg
          · split at hg
            · cases hg
            unfold gfieldAddr at hg
            have hx := hm x
            split at hg
            · rename_i he
              rw [he] at hx
              simp only [yes, Option.some.injEq, Prod.mk.injEq] at hg; obtain ⟨-, rfl⟩ := hg
              exact .val fun id' hy => hx id' (by simpa [G.men] using hy)
            · rename_i he
              rw [he] at hx
              cases hg
              exact .val fun id' hy => hx id' (by simp only [G.men] at hy ⊢; exact mens_drop hy)
            cases hg
          cases hg
        cases hg
      cases hg
    cases hg
  case field t x f =>
    split at hg
    · split at hg
      · split at hg
        · split at hg
          · unfold gfield at hg
            have hx := hm x
            split at hg
            · split at hg
              · cases hg; exact .p
              split at hg
              · simp only [yes, Option.some.injEq, Prod.mk.injEq] at hg; obtain ⟨-, rfl⟩ := hg; exact .p
              cases hg
            · rename_i he
              rw [he] at hx
              simp only [G.men] at hx
              split at hg
              · cases hg
                exact .val fun id' hy => hx id' (mens_drop (mens_take (men_mkAgg hy)))
              split at hg
              · rename_i hq
                simp only [yes, Option.some.injEq, Prod.mk.injEq] at hg; obtain ⟨-, rfl⟩ := hg
                exact .val fun id' hy => hx id' (mens_get hq hy)
              cases hg
            cases hg
          cases hg
        cases hg
      cases hg
    cases hg
  case indexAddr t x ix =>
    split at hg
    · split at hg
      · split at hg
        · exact gindexAddr_lv hg (hm x)
        cases hg
      · split at hg
        · exact gindexAddr_lv hg (hm x)
        cases hg
      cases hg
    cases hg
  case index t x ix =>
    have key : ∀ {D : TypeDesc} {j : TI} {n : Int} {g : G}, gindex D j n g = some (c, out) → Lv L out := fun {D j n g} hx => by
      unfold gindex at hx
      split at hx
      · split at hx
        · split at hx
          · cases hx; exact .p
          split at hx
          · cases hx; exact .p
          cases hx
        cases hx
      · split at hx
        · split at hx
          · cases hx; exact .p
          cases hx
        cases hx
      cases hx
    split at hg
    · split at hg
      · split at hg
        · exact key hg
        cases hg
      · exact key hg
      cases hg
    cases hg
  case lookup t m k ok =>
    split at hg
    · split at hg
      · split at hg
        · rename_i z hz
          unfold glookup at hg
          split at hg
          · split at hg
            · split at hg
              · rename_i b g hb
                cases hg
                have hgm : ∀ id, g.men id = false := fun id => by
                  unfold orZero at hb
                  split at hb
                  · simp only [Option.some.injEq, Prod.mk.injEq] at hb; obtain ⟨-, rfl⟩ := hb; rfl
                  split at hb
                  · rename_i hz'
                    simp only [Option.some.injEq, Prod.mk.injEq] at hb; obtain ⟨-, rfl⟩ := hb
                    exact zeroG_men hz hz' id
                  cases hb
                refine .val fun id' hx => ?_
                cases ok
                · exact absurd hx (by simp [hgm id'])
                have := men_mkTuple hx
                simp [G.mens, G.men, hgm id'] at this
              cases hg
            cases hg
          cases hg
        cases hg
      cases hg
    cases hg
  case mapUpdate t m k v =>
    split at hg
    · split at hg
      · unfold gmapUpdate at hg
        split at hg
        · split at hg
          · cases hg
            exact .put (by simp) (fun id' hx => by simp [G.men] at hx) fun id' hx => by simp [Ob.men] at hx
          cases hg
        cases hg
      cases hg
    cases hg
  case mapEntry t m k =>
    split at hg
    · split at hg
      · split at hg
        · unfold gmapEntry at hg
          split at hg
          · split at hg
            · cases hg
              exact .put (by simp) (fun id' hx => by
                have := men_mkTuple hx
                simp [G.mens, G.men] at this) fun id' hx => by simp [Ob.men] at hx
            cases hg
          cases hg
        cases hg
      cases hg
    cases hg
  case entryStore t m s v =>
    unfold gentryStore at hg
    split at hg
    · split at hg
      · cases hg
        exact .put (by simp) (fun id' hx => by simp [G.men] at hx) fun id' hx => by simp [Ob.men] at hx
      cases hg
    cases hg
  case typeAssert x xt t ok =>
    split at hg
    · rename_i i hi
      split at hg
      · cases hg
      have hz2 : ∀ z, zeroG i = some z → Lv L ⟨mkTuple [z, .p (.bool false)], none⟩ := fun z hz => .val fun id' hx => by
        have := men_mkTuple hx
        simp [G.mens, G.men, zeroG_men hi hz id'] at this
      unfold gtypeAssert at hg
      split at hg
      · split at hg
        · simp only [yes, Option.some.injEq, Prod.mk.injEq] at hg; obtain ⟨-, rfl⟩ := hg
          cases ok
          · exact .p
          exact .val fun id' hx => by
            simp only [if_true] at hx
            have := men_mkTuple hx
            simp [G.mens, G.men] at this
        split at hg
        · split at hg
          · rename_i z hz
            simp only [yes, Option.some.injEq, Prod.mk.injEq] at hg; obtain ⟨-, rfl⟩ := hg
            exact hz2 z hz
          cases hg
        cases hg
      · split at hg
        · split at hg
          · rename_i z hz
            simp only [yes, Option.some.injEq, Prod.mk.injEq] at hg; obtain ⟨-, rfl⟩ := hg
            exact hz2 z hz
          cases hg
        cases hg
      cases hg
    cases hg
  case extract x i =>
    unfold gextract at hg
    have hx := hm x
    split at hg
    · split at hg
      · simp only [yes, Option.some.injEq, Prod.mk.injEq] at hg; obtain ⟨-, rfl⟩ := hg; exact .p
      cases hg
    · rename_i he
      rw [he] at hx
      simp only [G.men] at hx
      split at hg
      · rename_i hq
        simp only [yes, Option.some.injEq, Prod.mk.injEq] at hg; obtain ⟨-, rfl⟩ := hg
        exact .val fun id' hy => hx id' (mens_get hq hy)
      cases hg
    cases hg
  case call cl =>
    split at hg
    · split at hg
      · split at hg
        · split at hg
          · unfold glen at hg
            split at hg <;> (try split at hg) <;> (try split at hg) <;> simp only [yes, Option.some.injEq, Prod.mk.injEq, reduceCtorEq] at hg
            all_goals (obtain ⟨-, rfl⟩ := hg; exact .p)
          cases hg
        cases hg
      · split at hg
        · split at hg
          · split at hg
            · split at hg
              · exact gappend_lv hg (hm _)
              cases hg
            cases hg
          cases hg
        cases hg
      · split at hg
        · rename_i g hq
          simp only [yes, Option.some.injEq, Prod.mk.injEq] at hg; obtain ⟨-, rfl⟩ := hg
          obtain ⟨p, rfl⟩ := gmin_p hq
          exact .p
        cases hg
      · split at hg
        · rename_i g hq
          simp only [yes, Option.some.injEq, Prod.mk.injEq] at hg; obtain ⟨-, rfl⟩ := hg
          obtain ⟨p, rfl⟩ := gmax_p hq
          exact .p
        cases hg
      cases hg
    cases hg
end
end Go.Gh

/- The ghost state of an activation, and what one operation does to it. -/
namespace Go.Gh
open Go.RowKit

inductive GD where
  | call (f : FuncId) (args caps : List G)
  | mark (id : Nat)
def GD.men (id : Nat) : GD → Bool
  | .call _ args caps => G.mens id args || G.mens id caps
  | .mark i => i == id

structure Sg {Pg : Program} (E : Env Pg) where
  fr : Nat → G
  h : Nat → Ob
  A : E.α
  df : List GD

structure Cx {Pg : Program} (E : Env Pg) where
  O0 : Nat → Prop
  w0 : World
  π0 : PM
  ρ0 : RM
  N : Nat
  /-- Objects with lesser numbers stay what they are. -/
  lim : Nat
  limOk : lim ≤ 90000

def DRel (π : PM) (ρ : RM) (y : Value) : GD → Deferred → Prop
  | .call f args caps, d => ∃ vs us, d = { target := .fn (.func f) ⟨us⟩, args := ⟨vs⟩ } ∧ VRels π ρ y args vs ∧ VRels π ρ y caps us
  | .mark id, d => d = { target := .collected (ρ id).blk, args := #[] }
def DRels (π : PM) (ρ : RM) (y : Value) : List GD → List Deferred → Prop
  | [], ds => ds = []
  | g :: gs, ds => ∃ d ds', ds = d :: ds' ∧ DRel π ρ y g d ∧ DRels π ρ y gs ds'
theorem DRels.mono {π π' : PM} {ρ ρ' : RM} {y : Value} (h : PM.le π π') : ∀ {gs : List GD} {ds : List Deferred}, (∀ id, ∀ g ∈ gs, g.men id = true → RStep (ρ id) (ρ' id)) → DRels π ρ y gs ds → DRels π' ρ' y gs ds
  | [], _, _, k => by simpa only [DRels] using k
  | g :: gs, ds, m, k => by
    simp only [DRels] at k ⊢
    obtain ⟨d, ds', rfl, hd, hds⟩ := k
    refine ⟨d, ds', rfl, ?_, DRels.mono h (fun id g hg => m id g (by simp [hg])) hds⟩
    cases g with
    | call f args caps =>
      obtain ⟨vs, us, rfl, hv, hu⟩ := hd
      exact ⟨vs, us, rfl, hv.mono h fun id hi => m id (.call f args caps) (by simp) (by simp [GD.men, hi]), hu.mono h fun id hi => m id (.call f args caps) (by simp) (by simp [GD.men, hi])⟩
    | mark i =>
      have := m i (.mark i) (by simp) (by simp [GD.men])
      simp only [DRel] at hd ⊢
      rcases this with e | ⟨e, _⟩ <;> rw [e] <;> exact hd

variable {Pg : Program} {E : Env Pg} {C : Cx E} {σ : Sg E} {a : Act} {w : World} {π : PM} {ρ : RM} {S : Nat → Prop}

structure St (C : Cx E) (σ : Sg E) (a : Act) (w : World) (π : PM) (ρ : RM) (S : Nat → Prop) : Prop where
  size : a.tmps.size = C.N
  vals : ∀ t, VRel π ρ E.yv (σ.fr t) (a.tmps.getD t undef)
  defs : DRels π ρ E.yv σ.df a.defers
  rel : Rel E π ρ σ.h σ.A S w
  trans : Trans C.O0 C.w0 C.π0 (Own ρ σ.h S) w π
  step : ∀ j, j < C.lim → RStep (C.ρ0 j) (ρ j)
  wfr : ∀ t id, (σ.fr t).men id = true → σ.h id ≠ .none
  wfh : ∀ j id, (σ.h j).men id = true → σ.h id ≠ .none
  wfd : ∀ g ∈ σ.df, ∀ id, g.men id = true → σ.h id ≠ .none

def Holds (C : Cx E) (σ : Sg E) (a : Act) (w : World) : Prop := ∃ π ρ S, St C σ a w π ρ S

def putF (f : Nat → G) (dst : Option Nat) (g : G) : Nat → G :=
  match dst with
  | some t => upd f t g
  | none => f
def putsH (h : Nat → Ob) : List (Nat × Ob) → Nat → Ob
  | [] => h
  | (i, ob) :: r => putsH (upd h i ob) r
def Sg.put (σ : Sg E) (dst : Option Nat) (g : G) (ps : List (Nat × Ob)) : Sg E := { σ with fr := putF σ.fr dst g, h := putsH σ.h ps }

theorem RStep.trans {r r' r'' : RO} (h : RStep r r') (k : RStep r' r'') : RStep r r'' := by
  rcases h with rfl | ⟨h1, h2⟩
  · exact k
  rcases k with rfl | ⟨k1, k2⟩
  · exact .inr ⟨h1, h2⟩
  exact .inr ⟨k1.trans h1, by omega⟩

theorem getD_put {a : Act} {dst : Option Nat} {v : Value} (hd : ∀ t, dst = some t → t < a.tmps.size) (t : Nat) : (a.put dst v).tmps.getD t undef = if dst = some t then v else a.tmps.getD t undef := by
  cases dst with
  | none => simp [Act.put]
  | some d =>
    have := hd d rfl
    simp only [Act.put, Option.some.injEq]
    by_cases e : d = t
    · subst e; simp [Array.getD, this]
    simp only [if_neg e, Array.getD_eq_getD_getElem?, Array.getElem?_setIfInBounds_ne e]
theorem size_put {a : Act} {dst : Option Nat} {v : Value} : (a.put dst v).tmps.size = a.tmps.size := by
  cases dst <;> simp [Act.put]
theorem defers_put {a : Act} {dst : Option Nat} {v : Value} : (a.put dst v).defers = a.defers := by
  cases dst <;> simp [Act.put]

/-- A value is put into a register. -/
theorem St.putReg (H : St C σ a w π ρ S) {dst : Option Nat} (hdst : ∀ t, dst = some t → t < C.N) {g : G} {v : Value} (hv : VRel π ρ E.yv g v) (hm : ∀ id, g.men id = true → σ.h id ≠ .none) :
    St C (σ.put dst g []) (a.put dst v) w π ρ S where
  size := size_put.trans H.size
  vals := fun t => by
    rw [getD_put (by rw [H.size]; exact hdst)]
    cases dst with
    | none => simpa [Sg.put, putF] using H.vals t
    | some d =>
      simp only [Sg.put, putF, Option.some.injEq, upd]
      by_cases e : d = t
      · subst e; simpa using hv
      simp only [if_neg e, if_neg (Ne.symm e)]; exact H.vals t
  defs := by rw [defers_put]; exact H.defs
  rel := H.rel
  trans := H.trans
  step := H.step
  wfr := fun t id hx => by
    simp only [Sg.put, putF] at hx ⊢
    cases dst with
    | none => exact H.wfr t id hx
    | some d =>
      simp only [upd] at hx
      split at hx
      · exact hm id hx
      exact H.wfr t id hx
  wfh := H.wfh
  wfd := H.wfd

/-- Objects turn. -/
theorem St.putObj (H : St C σ a w π ρ S) {w' : World} {π' : PM} {ρ' : RM} {S' : Nat → Prop} {A' : E.α} {h' : Nat → Ob} (hR : Rel E π' ρ' h' A' S' w') (hT : Trans (Own ρ σ.h S) w π (Own ρ' h' S') w' π')
    (hP : ∀ j, σ.h j ≠ .none → RStep (ρ j) (ρ' j)) (hP2 : ∀ j, j < C.lim → RStep (ρ j) (ρ' j)) (hne : ∀ id, σ.h id ≠ .none → h' id ≠ .none) (hwf : ∀ j id, (h' j).men id = true → h' id ≠ .none) :
    St C { σ with h := h', A := A' } a w' π' ρ' S' where
  size := H.size
  vals := fun t => (H.vals t).mono hT.le fun id hi => hP id (H.wfr t id hi)
  defs := H.defs.mono hT.le fun id g hg hi => hP id (H.wfd g hg id hi)
  rel := hR
  trans := H.trans.trans hT
  step := fun j hj => (H.step j hj).trans (hP2 j hj)
  wfr := fun t id hi => hne id (H.wfr t id hi)
  wfh := hwf
  wfd := fun g hg id hi => hne id (H.wfd g hg id hi)

theorem putH_puts (h : Nat → Ob) (o : Option (Nat × Ob)) : putH h o = putsH h o.toList := by cases o <;> rfl

theorem Lv.wf {h : Nat → Ob} {out : Out} (hl : Lv (fun id => h id ≠ .none) out) (hwf : ∀ j id, (h j).men id = true → h id ≠ .none) :
    (∀ id, h id ≠ .none → putH h out.put id ≠ .none) ∧ (∀ j id, (putH h out.put j).men id = true → putH h out.put id ≠ .none) ∧ ∀ id, out.val.men id = true → putH h out.put id ≠ .none := by
  obtain ⟨g, put⟩ := out
  cases put with
  | none => exact ⟨fun _ h => h, hwf, fun id hm => (hl.1 id hm).elim (fun h => h) fun ⟨ob, e⟩ => by cases e⟩
  | some p =>
    obtain ⟨i, ob⟩ := p
    obtain ⟨h1, h2⟩ := hl.2 _ rfl
    have hne : ∀ id, h id ≠ .none → putH h (some (i, ob)) id ≠ .none := fun id hi => putH_ne h1 (.inl hi)
    refine ⟨hne, fun j id hj => ?_, fun id hm => ?_⟩
    · simp only [putH, upd] at hj
      split at hj
      · exact putH_ne h1 (h2 id hj)
      exact hne id (hwf j id hj)
    exact putH_ne h1 ((hl.1 id hm).imp (fun h => h) fun ⟨ob, e⟩ => by cases e; rfl)

theorem St.after (H : St C σ a w π ρ S) {d : Nat} (hd : σ.h d = .none) (hd2 : C.lim ≤ d) {out : Out} {v : Value} {w' : World} (hp : Post E π ρ σ.h σ.A S w d out v w') (hl : Lv (fun id => σ.h id ≠ .none) out) {dst : Option Nat} (hdst : ∀ t, dst = some t → t < C.N) :
    Holds C (σ.put dst out.val out.put.toList) (a.put dst v) w' := by
  obtain ⟨π', ρ', hv, hR, hT, hP⟩ := hp
  obtain ⟨w1, w2, w3⟩ := hl.wf H.wfh
  have H' := H.putObj hR hT (fun j hj => (hP j fun e => hj (e ▸ hd)).1) (fun j hj => (hP j (by omega)).1) w1 w2
  have H'' := H'.putReg hdst hv w3
  refine ⟨π', ρ', S, ?_⟩
  simp only [Sg.put, putsH, ← putH_puts] at H'' ⊢
  exact H''

theorem gev_ok (H : St C σ a w π ρ S) (x : Operand) : VRel π ρ E.yv (gev σ.fr x) (a.eval x) := by
  cases x with
  | tmp t => exact H.vals t
  | const v => exact VRel.ofV v
  | global g => simp only [gev, VRel]
  | func f => simp only [gev, VRel, PRel]; exact ⟨[], [], rfl, rfl, rfl⟩
theorem gev_men (H : St C σ a w π ρ S) (x : Operand) (id : Nat) (hx : (gev σ.fr x).men id = true) : σ.h id ≠ .none := by
  cases x with
  | tmp t => exact H.wfr t id hx
  | const v => rw [gev, men_ofV] at hx; cases hx
  | global g => simp [gev, G.men] at hx
  | func f => simp [gev, G.men] at hx

/-! Restricted heaps -/
def rhp (h : Nat → Ob) (I : List Nat) : Nat → Ob := fun id => if id ∈ I then h id else .none

theorem Rel.restrict {A : E.α} {h : Nat → Ob} (R : Rel E π ρ h A S w) (I : List Nat) : Rel E π ρ (rhp h I) A S w where
  know := R.know
  objs := fun id => by
    simp only [rhp]
    split
    · exact R.objs id
    trivial
  apart := fun i j b hij hi hj => by
    simp only [rhp] at hi hj
    split at hi
    · split at hj
      · exact R.apart i j b hij hi hj
      simp [live] at hj
    simp [live] at hi
  sep := fun i b hi => by
    simp only [rhp] at hi
    split at hi
    · exact R.sep i b hi
    simp [live] at hi
  res := R.res
  inb := R.inb

theorem Post.frame {A : E.α} {h : Nat → Ob} (R : Rel E π ρ h A S w) {I : List Nat} {d : Nat} (hd : h d = .none) (hdm : ∀ j, (h j).men d = false) {out : Out} {v : Value} {w' : World} (hput : ∀ p, out.put = some p → p.1 ∈ I)
    (hp : Post E π ρ (rhp h I) A S w d out v w') : Post E π ρ h A S w d out v w' := by
  obtain ⟨π', ρ', hv, hR, hT, hP⟩ := hp
  -- what is left out stays
  have hout : ∀ id, id ∉ I → id ≠ d → ρ' id = ρ id := fun id hi hid => by
    rcases (hP id hid).2 with e | ⟨ob, e⟩
    · exact e
    exact absurd (hput _ e) hi
  have hputn : ∀ id, id ∉ I → putH h out.put id = h id ∧ putH (rhp h I) out.put id = .none := fun id hi => by
    cases ho : out.put with
    | none => simp [putH, rhp, hi]
    | some p =>
      obtain ⟨i, ob⟩ := p
      have : id ≠ i := fun e => hi (e ▸ hput _ ho)
      simp [putH, upd, this, rhp, hi]
  have hputy : ∀ id, id ∈ I → putH h out.put id = putH (rhp h I) out.put id := fun id hi => by
    cases ho : out.put with
    | none => simp [putH, rhp, hi]
    | some p => simp [putH, upd, rhp, hi]
  have hfr : ∀ id b, id ∉ I → live ρ id (h id) = some b → b < w.heap.size ∧ ¬ Own ρ (rhp h I) S b := fun id b hi hb => by
    refine ⟨(R.objs id).lt hb, fun ho => ?_⟩
    rcases ho with ho | ⟨j, hj⟩
    · exact R.sep id b hb ho
    simp only [rhp] at hj
    split at hj
    · rename_i hjI
      exact R.apart id j b (fun e => hi (e ▸ hjI)) hb hj
    simp [live] at hj
  have hlive : ∀ id, id ∉ I → live ρ' id (h id) = live ρ id (h id) := fun id hi => by
    by_cases e : id = d
    · subst e; rw [hd]; rfl
    have := hout id hi e
    cases h id <;> simp [live, this]
  have hfresh : ∀ j b id, j ∈ I → id ∉ I → live ρ' j (putH (rhp h I) out.put j) = some b → live ρ id (h id) ≠ some b := fun j b id hj hi hb hid => by
    obtain ⟨h1, h2⟩ := hfr id b hi hid
    rcases hT.own b (.inr ⟨j, hb⟩) with h3 | h3
    · exact h2 h3
    omega
  refine ⟨π', ρ', hv, ⟨hR.know, fun id => ?_, fun i j b hij hi hj => ?_, fun i b hi => ?_, hR.res, hR.inb⟩, ⟨hT.size, hT.os, hT.tape, hT.output, fun b hb hn => ?_, hT.le, fun b hb => ?_⟩, hP⟩
  · by_cases hi : id ∈ I
    · rw [hputy id hi]; exact hR.objs id
    rw [(hputn id hi).1]
    by_cases e : id = d
    · subst e; rw [hd]; trivial
    refine (R.objs id).keep hT.le (hout id hi e) (fun i hm => ?_) fun b hb => ?_
    · by_cases e' : i = d
      · subst e'; rw [hdm id] at hm; cases hm
      exact (hP i e').1
    obtain ⟨h1, h2⟩ := hfr id b hi hb
    exact hT.keep b h1 h2
  · by_cases hiI : i ∈ I
    · rw [hputy i hiI] at hi
      by_cases hjI : j ∈ I
      · rw [hputy j hjI] at hj
        exact hR.apart i j b hij hi hj
      rw [(hputn j hjI).1, hlive j hjI] at hj
      exact hfresh i b j hiI hjI hi hj
    rw [(hputn i hiI).1, hlive i hiI] at hi
    by_cases hjI : j ∈ I
    · rw [hputy j hjI] at hj
      exact hfresh j b i hjI hiI hj hi
    rw [(hputn j hjI).1, hlive j hjI] at hj
    exact R.apart i j b hij hi hj
  · by_cases hiI : i ∈ I
    · rw [hputy i hiI] at hi
      exact hR.sep i b hi
    rw [(hputn i hiI).1, hlive i hiI] at hi
    exact R.sep i b hi
  · refine hT.keep b hb fun ho => hn ?_
    rcases ho with ho | ⟨j, hj⟩
    · exact .inl ho
    simp only [rhp] at hj
    split at hj
    · exact .inr ⟨j, hj⟩
    simp [live] at hj
  have key : Own ρ' (putH (rhp h I) out.put) S b ∨ ∃ id, id ∉ I ∧ live ρ id (h id) = some b := by
    rcases hb with hb | ⟨j, hj⟩
    · exact .inl (.inl hb)
    by_cases hjI : j ∈ I
    · rw [hputy j hjI] at hj; exact .inl (.inr ⟨j, hj⟩)
    rw [(hputn j hjI).1, hlive j hjI] at hj; exact .inr ⟨j, hjI, hj⟩
  rcases key with k | ⟨id, _, k⟩
  · rcases hT.own b k with k' | k'
    · left
      rcases k' with k' | ⟨j, hj⟩
      · exact .inl k'
      simp only [rhp] at hj
      split at hj
      · exact .inr ⟨j, hj⟩
      simp [live] at hj
    exact .inr k'
  exact .inl (.inr ⟨id, k⟩)
end Go.Gh

/- What one operation does, said locally. -/
namespace Go.Gh
open Go.RowKit
variable {Pg : Program} {E : Env Pg} {C : Cx E} {σ : Sg E} {a : Act} {w : World} {π : PM} {ρ : RM} {S : Nat → Prop}

theorem map_congr' {ev ev' : Operand → G} {l : List Operand} (h : ∀ x ∈ l, ev x = ev' x) : l.map ev = l.map ev' := List.map_congr_left h
theorem gsem_congr {mu : Bool} {d : Nat} {ev ev' : Operand → G} {h : Nat → Ob} {op : Op} (he : ∀ x ∈ op.operands.toList, ev x = ev' x) : gsem Pg mu d ev h op = gsem Pg mu d ev' h op := by
  cases op <;> simp only [gsem]
  case build t ps =>
    have : (ps.toList.map fun q => (q.1, ev q.2)) = ps.toList.map fun q => (q.1, ev' q.2) := List.map_congr_left fun q hq => by
      rw [he q.2 (by simp only [Op.operands]; exact List.mem_map.2 ⟨q, hq, rfl⟩)]
    rw [this]
  case buildSlice t n ps =>
    have : (ps.toList.map fun q => ev q.2) = ps.toList.map fun q => ev' q.2 := List.map_congr_left fun q hq => by
      rw [he q.2 (by simp only [Op.operands]; exact List.mem_map.2 ⟨q, hq, rfl⟩)]
    rw [this]
  case makeFunc f as bs =>
    rw [map_congr' (l := as.toList) fun x hx => he x (by simp only [Op.operands, Array.toList_append, List.mem_append]; exact .inl hx),
      map_congr' (l := bs.toList) fun x hx => he x (by simp only [Op.operands, Array.toList_append, List.mem_append]; exact .inr hx)]
  case slice t x lo hi mx =>
    have h1 := he x (by simp [Op.operands])
    have h2 : lo.map ev = lo.map ev' := by cases lo with
      | none => rfl
      | some y => simp only [Option.map_some]; rw [he y (by simp [Op.operands])]
    have h3 : hi.map ev = hi.map ev' := by cases hi with
      | none => rfl
      | some y => simp only [Option.map_some]; rw [he y (by simp [Op.operands])]
    rw [h1, h2, h3]
  case call cl =>
    obtain ⟨callee, args, ats⟩ := cl
    have hall : ∀ x ∈ args.toList, ev x = ev' x := fun x hx => he x (by
      cases callee <;> simp [Op.operands, Call.operands, Array.mem_toList_iff] at hx ⊢ <;> simp [hx])
    rw [map_congr' hall]
    cases callee with
    | builtin b =>
      cases b <;> simp only
      case len =>
        generalize args.toList = l at hall
        generalize ats.toList = m
        rcases l with _ | ⟨x, _ | ⟨y, l⟩⟩ <;> rcases m with _ | ⟨t, _ | ⟨t', m⟩⟩ <;> try rfl
        have := hall x (by simp)
        simp only [this]
      case append =>
        generalize args.toList = l at hall
        generalize ats.toList = m
        rcases l with _ | ⟨x, _ | ⟨y, _ | ⟨z, l⟩⟩⟩ <;> rcases m with _ | ⟨t, _ | ⟨t', _ | ⟨t'', m⟩⟩⟩ <;> try rfl
        have h1 := hall x (by simp)
        have h2 := hall y (by simp)
        simp only [h1, h2]
    | _ => rfl
  all_goals first
    | rfl
    | (simp only [Op.operands, List.mem_cons, List.not_mem_nil, or_false, forall_eq_or_imp, forall_eq] at he
       try rw [he.1]
       try rw [he.2.1]
       try rw [he.2.2]
       try rw [he.2]
       try rw [he])

mutual
/-- The numbers that a value leads to. -/
def G.idl : G → List Nat
  | .agg cs => G.idls cs
  | .tuple cs => G.idls cs
  | .fn _ a b => G.idls a ++ G.idls b
  | .iface _ x => G.idl x
  | .ptr cs => G.idls cs
  | .ref i _ => [i]
  | .own i _ => [i]
  | .aref i _ _ => [i]
  | .fsl i _ _ => [i]
  | .map i => [i]
  | _ => []
def G.idls : List G → List Nat
  | [] => []
  | g :: gs => G.idl g ++ G.idls gs
end

/-- Another state that agrees on what an operation looks at. -/
structure Agree (ops : Array Oper) (o : Oper) (I : List Nat) (σ σ' : Sg E) : Prop where
  A : σ'.A = σ.A
  df : σ'.df = σ.df
  fr : ∀ t ∈ o.looksAt ops, σ'.fr t = σ.fr t
  h : ∀ id ∈ I, σ'.h id = σ.h id

def wpO (r : Option Nat) (Pg : Program) (ops : Array Oper) (Q : Exit → Act → World → Prop) (o : Oper) (K : Act → World → Prop) (a : Act) (w : World) : Prop :=
  if Region.wanted o (yielded ops a.tmps) then o.wpIn (MF r) 0 Pg a w K Q else (∀ f, o.about Pg w a.eval = some f → (MF r).fn f) ∧ K (a.put o.dst undef) w

/-- WHAT AN OPERATION DOES, WHATEVER ELSE THERE IS. -/
def Eff (C : Cx E) (r : Option Nat) (ops : Array Oper) (o : Oper) (σ : Sg E) (I : List Nat) (g : G) (ps : List (Nat × Ob)) : Prop :=
  ∀ σ', Agree ops o I σ σ' → ∀ a w, Holds C σ' a w → ∀ (K : Act → World → Prop) Q, (∀ a' w', Holds C (σ'.put o.dst g ps) a' w' → K a' w') → wpO r Pg ops Q o K a w

theorem agree_ev {ops : Array Oper} {o : Oper} {I : List Nat} {σ σ' : Sg E} (h : Agree ops o I σ σ') : ∀ x ∈ o.op.operands.toList, gev σ'.fr x = gev σ.fr x := fun x hx => by
  cases x with
  | tmp t => exact h.fr t (List.mem_append_left _ (List.mem_filterMap.2 ⟨.tmp t, hx, rfl⟩))
  | _ => rfl

/-- Is an operation wanted? -/
def gwant (ops : Array Oper) (fr : Nat → G) (o : Oper) : Option Bool :=
  match o.guard with
  | none => some true
  | some (j, b) => match (ops[j]?).bind (·.dst) with
    | some t => match fr t with
      | .p (.bool x) => some (x == b)
      | .p (.tuple []) => some false
      | _ => none
    | none => none

theorem gwant_ok {ops : Array Oper} {o : Oper} (H : St C σ a w π ρ S) {b : Bool} (hw : gwant ops σ.fr o = some b) : Region.wanted o (yielded ops a.tmps) = b := by
  unfold gwant at hw
  unfold Region.wanted
  split at hw
  · rename_i hg
    simp only [hg, Option.some.injEq] at hw ⊢; exact hw
  rename_i j c hg
  simp only [hg]
  split at hw
  · rename_i t ht
    have hv := H.vals t
    have hy : yielded ops a.tmps j = (match a.tmps.getD t undef with | .bool b => some b | _ => none) := by
      unfold yielded
      rw [ht]
      simp only [Option.bind_some, Array.getD_eq_getD_getElem?]
      cases a.tmps[t]? with
      | none => rfl
      | some u => cases u <;> rfl
    rw [hy]
    split at hw
    · rename_i x hx
      rw [hx] at hv
      simp only [VRel, PRel] at hv
      rw [hv]
      simp only [Option.some.injEq] at hw
      subst hw
      cases x <;> cases c <;> rfl
    · rename_i hx
      rw [hx] at hv
      simp only [VRel, PRel, PRels] at hv
      obtain ⟨vs, hv, rfl⟩ := hv
      rw [hv]
      simp only [Option.some.injEq] at hw
      subst hw
      rfl
    cases hw
  cases hw

theorem gwant_agree {ops : Array Oper} {o : Oper} {I : List Nat} {σ σ' : Sg E} (h : Agree ops o I σ σ') : gwant ops σ'.fr o = gwant ops σ.fr o := by
  unfold gwant
  cases hg : o.guard with
  | none => rfl
  | some q =>
    obtain ⟨j, b⟩ := q
    simp only
    cases ht : (ops[j]?).bind (·.dst) with
    | none => rfl
    | some t =>
      simp only
      rw [h.fr t (List.mem_append_right _ (by simp [hg, ht]))]

/-- The numbers that an operation looks at. -/
def opIds (ev : Operand → G) (op : Op) : List Nat := op.operands.toList.flatMap fun x => (ev x).idl

theorem eff_op {r : Option Nat} {ops : Array Oper} {o : Oper} {mu : Bool} {d : Nat} {I : List Nat} {c : Prop} {out : Out} (hw : gwant ops σ.fr o = some true)
    (hg : gsem Pg mu d (gev σ.fr) (rhp σ.h I) o.op = some (c, out)) (hc : c) (hd : σ.h d = .none) (hd2 : C.lim ≤ d) (hI : ∀ p, out.put = some p → p.1 ∈ d :: I) (hdst : ∀ t, o.dst = some t → t < C.N) :
    Eff C r ops o σ (d :: I) out.val out.put.toList := by
  intro σ' hA a w ⟨π, ρ, S, H⟩ K Q hK
  have hwt := gwant_ok H ((gwant_agree hA).trans hw)
  unfold wpO
  rw [hwt]
  simp only [if_true]
  refine ⟨fun _ _ => trivial, ?_⟩
  have hI' : rhp σ.h I = rhp σ'.h I := funext fun id => by
    simp only [rhp]
    split
    · rename_i hi; exact (hA.h id (by simp [hi])).symm
    rfl
  have hd' : σ'.h d = .none := (hA.h d (by simp)).trans hd
  have hg' : gsem Pg mu d (gev σ'.fr) (rhp σ'.h I) o.op = some (c, out) := by
    rw [← hI', gsem_congr (agree_ev hA)]; exact hg
  have hdm : ∀ j, (σ'.h j).men d = false := fun j => by
    cases hm : (σ'.h j).men d with
    | false => rfl
    | true => exact absurd hd' (H.wfh j d hm)
  have hdI : rhp σ'.h (d :: I) d = .none := by simp [rhp, hd']
  have hRR : rhp σ'.h I = rhp σ'.h (d :: I) := funext fun id => by
    simp only [rhp, List.mem_cons]
    by_cases e : id = d
    · subst e; simp [hd']
    simp [e]
  rw [hRR] at hg'
  have hy := gsem_ok (h := rhp σ'.h (d :: I)) (dst := o.dst) (ty := o.type) (pos := o.pos) (after := o.after) (guard := o.guard) (H.rel.restrict (d :: I)) (gev_ok H) hdI
    (fun j => by
      simp only [rhp]
      split
      · exact hdm j
      rfl)
    (fun x => by
      cases hm : (gev σ'.fr x).men d with
      | false => rfl
      | true => exact absurd hd' (gev_men H x d hm)) hg' hc
  obtain ⟨nx, w', v, hrun, hnx, hp⟩ := hy
  have hp' := Post.frame H.rel hd' hdm hI hp
  have hlv : Lv (fun id => σ'.h id ≠ .none) out := gsem_lv (L := fun id => σ'.h id ≠ .none) (fun j id hj => by
    simp only [rhp] at hj
    split at hj
    · exact H.wfh j id hj
    simp [Ob.men] at hj) (gev_men H) hg'
  have hfin := hK _ _ (H.after hd' hd2 hp' hlv hdst)
  have hsem : Oper.semAt (MF r).round a.eval o = execOp a.eval o := by
    cases r with
    | none => rfl
    | some l => exact Oper.semAt_some l _ _ fun cl hcl => by rw [hcl] at hg'; simp [gsem] at hg'
  rw [hsem]
  have : execOp a.eval o = execOp a.eval ⟨o.dst, o.op, o.type, o.pos, o.after, o.guard⟩ := rfl
  rw [this, hrun]
  rcases hnx with rfl | ⟨rfl, rfl⟩
  · exact hfin
  exact hfin
end Go.Gh

/- Regions: in order, and in any order that waits allow. -/
namespace Go.Gh
open Go.RowKit
variable {Pg : Program} {E : Env Pg} {C : Cx E} {σ : Sg E} {a : Act} {w : World} {π : PM} {ρ : RM} {S : Nat → Prop}

theorem undef_rel {π : PM} {ρ : RM} {y : Value} : VRel π ρ y (.p (.tuple [])) undef := by
  simp only [VRel, PRel, PRels]; exact ⟨[], rfl, rfl⟩

theorem eff_skip {r : Option Nat} {ops : Array Oper} {o : Oper} (hw : gwant ops σ.fr o = some false) (hdst : ∀ t, o.dst = some t → t < C.N) : Eff C r ops o σ [] (.p (.tuple [])) [] := by
  intro σ' hA a w ⟨π, ρ, S, H⟩ K Q hK
  have hwt := gwant_ok H ((gwant_agree hA).trans hw)
  unfold wpO
  rw [hwt]
  simp only [Bool.false_eq_true, if_false]
  exact ⟨fun _ _ => trivial, hK _ _ ⟨π, ρ, S, H.putReg hdst undef_rel fun id hx => by simp [G.men] at hx⟩⟩

/-! ### Puts -/
theorem putsH_same {h h' : Nat → Ob} : ∀ {ps : List (Nat × Ob)} {id : Nat}, h id = h' id → putsH h ps id = putsH h' ps id
  | [], _, e => e
  | (i, ob) :: ps, id, e => putsH_same (ps := ps) (by simp only [upd]; split <;> first | rfl | exact e)
theorem putsH_not {h : Nat → Ob} : ∀ {ps : List (Nat × Ob)} {id : Nat}, (∀ p ∈ ps, p.1 ≠ id) → putsH h ps id = h id
  | [], _, _ => rfl
  | (i, ob) :: ps, id, hn => by
    rw [putsH, putsH_not fun p hp => hn p (by simp [hp])]
    exact upd_other h ob (Ne.symm (hn (i, ob) (by simp)))
theorem putsH_upd {h : Nat → Ob} {i : Nat} {ob : Ob} : ∀ {ps : List (Nat × Ob)}, (∀ p ∈ ps, p.1 ≠ i) → putsH (upd h i ob) ps = upd (putsH h ps) i ob
  | [], _ => rfl
  | (k, o2) :: ps, hn => by
    have hk : k ≠ i := hn (k, o2) (by simp)
    have : upd (upd h i ob) k o2 = upd (upd h k o2) i ob := funext fun x => by
      simp only [upd]
      by_cases e : x = k
      · subst e; simp [hk]
      simp [e]
    rw [putsH, this, putsH_upd fun p hp => hn p (by simp [hp])]
    rfl
theorem putsH_comm {h : Nat → Ob} {qs : List (Nat × Ob)} : ∀ {ps : List (Nat × Ob)}, (∀ p ∈ ps, ∀ q ∈ qs, p.1 ≠ q.1) → putsH (putsH h ps) qs = putsH (putsH h qs) ps
  | [], _ => rfl
  | (i, ob) :: ps, hn => by
    rw [putsH, putsH_comm fun p hp => hn p (by simp [hp]), putsH_upd fun q hq => Ne.symm (hn (i, ob) (by simp) q hq)]
    rfl
theorem putF_not {f : Nat → G} {dst : Option Nat} {g : G} {t : Nat} (h : dst ≠ some t) : putF f dst g t = f t := by
  cases dst with
  | none => rfl
  | some d => exact upd_other f g fun e => h (by rw [e])
theorem putF_same {f f' : Nat → G} {dst : Option Nat} {g : G} {t : Nat} (h : f t = f' t) : putF f dst g t = putF f' dst g t := by
  cases dst with
  | none => exact h
  | some d => simp only [putF, upd]; split <;> first | rfl | exact h
theorem putF_comm {f : Nat → G} {d e : Option Nat} {g g' : G} (h : ∀ t, d = some t → e ≠ some t) : putF (putF f d g) e g' = putF (putF f e g') d g := by
  cases d with
  | none => rfl
  | some t =>
    cases e with
    | none => rfl
    | some u =>
      have hut : u ≠ t := fun x => h t rfl (by rw [x])
      funext x
      simp only [putF, upd]
      by_cases e1 : x = u
      · subst e1; simp [hut]
      simp [e1]

structure Rec where
  dst : Option Nat
  g : G
  ps : List (Nat × Ob)
  I : List Nat

def segSt (R : Nat → Rec) (lo : Nat) (σ : Sg E) (X : Nat → Bool) : Nat → Sg E
  | 0 => σ
  | m + 1 => if X (lo + m) then (segSt R lo σ X m).put (R (lo + m)).dst (R (lo + m)).g (R (lo + m)).ps else segSt R lo σ X m

/-- Two operations that may change places. -/
structure Free (ops : Array Oper) (R : Nat → Rec) (i j : Nat) : Prop where
  r1 : ∀ oj, ops[j]? = some oj → ∀ t ∈ oj.looksAt ops, (R i).dst ≠ some t
  r2 : ∀ oi, ops[i]? = some oi → ∀ t ∈ oi.looksAt ops, (R j).dst ≠ some t
  r3 : ∀ t, (R i).dst = some t → (R j).dst ≠ some t
  o1 : ∀ p ∈ (R i).ps, p.1 ∉ (R j).I
  o2 : ∀ p ∈ (R j).ps, p.1 ∉ (R i).I
  o3 : ∀ p ∈ (R i).ps, ∀ q ∈ (R j).ps, p.1 ≠ q.1

section
variable {R : Nat → Rec} {lo : Nat} {X : Nat → Bool} {ops : Array Oper}
theorem segSt_A : ∀ m, (segSt R lo σ X m).A = σ.A ∧ (segSt R lo σ X m).df = σ.df
  | 0 => ⟨rfl, rfl⟩
  | m + 1 => by
    have ih := segSt_A m
    simp only [segSt]
    split <;> exact ih

theorem segSt_fr {q t : Nat} (hX : X (lo + q) = false) (h1 : ∀ m, m < q → X (lo + m) = false → (R (lo + m)).dst ≠ some t) : ∀ m, (∀ k, q < k → k < m → X (lo + k) = true → (R (lo + k)).dst ≠ some t) →
    (segSt R lo σ X m).fr t = (segSt R lo σ (fun _ => true) (min m q)).fr t
  | 0, _ => by simp [segSt]
  | m + 1, h2 => by
    have ih := segSt_fr hX h1 m fun k hk hkm => h2 k hk (by omega)
    simp only [segSt]
    by_cases hm : m < q
    · have e : min (m + 1) q = min m q + 1 := by omega
      have e2 : min m q = m := by omega
      rw [e, segSt, e2]
      simp only [if_true]
      rw [e2] at ih
      split
      · exact putF_same ih
      rename_i hn
      rw [ih]
      exact (putF_not (h1 m hm (by simpa using hn))).symm
    have e : min (m + 1) q = min m q := by omega
    rw [e]
    by_cases hq : m = q
    · subst hq; rw [if_neg (by simp [hX])]; exact ih
    split
    · rename_i hx
      rw [← ih]
      exact putF_not (h2 m (by omega) (by omega) hx)
    exact ih
theorem segSt_h {q id : Nat} (hX : X (lo + q) = false) (h1 : ∀ m, m < q → X (lo + m) = false → ∀ p ∈ (R (lo + m)).ps, p.1 ≠ id) : ∀ m, (∀ k, q < k → k < m → X (lo + k) = true → ∀ p ∈ (R (lo + k)).ps, p.1 ≠ id) →
    (segSt R lo σ X m).h id = (segSt R lo σ (fun _ => true) (min m q)).h id
  | 0, _ => by simp [segSt]
  | m + 1, h2 => by
    have ih := segSt_h hX h1 m fun k hk hkm => h2 k hk (by omega)
    simp only [segSt]
    by_cases hm : m < q
    · have e : min (m + 1) q = min m q + 1 := by omega
      have e2 : min m q = m := by omega
      rw [e, segSt, e2]
      simp only [if_true]
      rw [e2] at ih
      split
      · exact putsH_same ih
      rename_i hn
      rw [ih]
      exact (putsH_not (h1 m hm (by simpa using hn))).symm
    have e : min (m + 1) q = min m q := by omega
    rw [e]
    by_cases hq : m = q
    · subst hq; rw [if_neg (by simp [hX])]; exact ih
    split
    · rename_i hx
      rw [← ih]
      exact putsH_not (h2 m (by omega) (by omega) hx)
    exact ih

theorem Sg.put_comm {d e : Option Nat} {g g' : G} {ps qs : List (Nat × Ob)} (h : ∀ t, d = some t → e ≠ some t) (hp : ∀ p ∈ ps, ∀ q ∈ qs, p.1 ≠ q.1) : (σ.put d g ps).put e g' qs = (σ.put e g' qs).put d g ps := by
  simp only [Sg.put, putF_comm h, putsH_comm hp]

theorem segSt_list {X' : Nat → Bool} {q : Nat} (hX : X (lo + q) = false) (hX' : X' (lo + q) = true) (hsame : ∀ m, m ≠ q → X' (lo + m) = X (lo + m)) : ∀ m, (∀ k, q < k → k < m → X (lo + k) = true → Free ops R (lo + q) (lo + k)) →
    (m ≤ q → segSt R lo σ X' m = segSt R lo σ X m) ∧ (q < m → segSt R lo σ X' m = (segSt R lo σ X m).put (R (lo + q)).dst (R (lo + q)).g (R (lo + q)).ps)
  | 0, _ => ⟨fun _ => rfl, fun h => absurd h (by omega)⟩
  | m + 1, hf => by
    obtain ⟨i1, i2⟩ := segSt_list hX hX' hsame m fun k hk hkm => hf k hk (by omega)
    refine ⟨fun hm => ?_, fun hm => ?_⟩
    · simp only [segSt, hsame m (by omega), i1 (by omega)]
    by_cases e : m = q
    · subst e
      simp only [segSt, hX, hX', if_true, Bool.false_eq_true, if_false, i1 (Nat.le_refl _)]
    simp only [segSt, hsame m e, i2 (by omega)]
    split
    · rename_i hx
      have hfr := hf m (by omega) (by omega) hx
      exact (Sg.put_comm (fun t ht => hfr.r3 t ht) hfr.o3)
    rfl
end

def cnt (X : Nat → Bool) (lo : Nat) : Nat → Nat
  | 0 => 0
  | m + 1 => cnt X lo m + if X (lo + m) then 0 else 1
theorem cnt_upd {X X' : Nat → Bool} {lo q : Nat} (hX : X (lo + q) = false) (hX' : X' (lo + q) = true) (hsame : ∀ m, m ≠ q → X' (lo + m) = X (lo + m)) : ∀ m, (m ≤ q → cnt X' lo m = cnt X lo m) ∧ (q < m → cnt X' lo m + 1 = cnt X lo m)
  | 0 => ⟨fun _ => rfl, fun h => absurd h (by omega)⟩
  | m + 1 => by
    obtain ⟨i1, i2⟩ := cnt_upd hX hX' hsame m
    refine ⟨fun hm => ?_, fun hm => ?_⟩
    · simp only [cnt, hsame m (by omega), i1 (by omega)]
    by_cases e : m = q
    · subst e
      simp only [cnt, hX, hX', if_true, Bool.false_eq_true, if_false, i1 (Nat.le_refl _), Nat.add_zero]
    simp only [cnt, hsame m e]
    have := i2 (by omega)
    omega
theorem cnt_zero {X : Nat → Bool} {lo : Nat} : ∀ {m}, cnt X lo m = 0 → ∀ k, k < m → X (lo + k) = true
  | 0, _, k, hk => absurd hk (by omega)
  | m + 1, h, k, hk => by
    simp only [cnt] at h
    by_cases e : k = m
    · subst e
      cases hx : X (lo + k) with
      | true => rfl
      | false => rw [hx] at h; simp at h
    exact cnt_zero (X := X) (m := m) (by omega) k (by omega)
theorem cnt_first {X : Nat → Bool} {lo : Nat} : ∀ {m}, cnt X lo m ≠ 0 → ∃ k, k < m ∧ X (lo + k) = false ∧ ∀ j, j < k → X (lo + j) = true
  | 0, h => absurd rfl h
  | m + 1, h => by
    by_cases h0 : cnt X lo m = 0
    · simp only [cnt, h0, Nat.zero_add, ne_eq] at h
      refine ⟨m, by omega, ?_, fun j hj => cnt_zero h0 j hj⟩
      cases hx : X (lo + m) with
      | true => rw [hx] at h; simp at h
      | false => rfl
    obtain ⟨k, h1, h2, h3⟩ := cnt_first h0
    exact ⟨k, by omega, h2, h3⟩

abbrev lst (listed : Array Bool) : Nat → Bool := fun k => listed.getD k true
def isTo (ops : Array Oper) (lo : Nat) (listed : Array Bool) : Prop := listed.size = ops.size ∧ ∀ k, k < ops.size → lst listed k = decide (k < lo)

/-- A region in any order, its first operations done. -/
structure gany (C : Cx E) (r : Option Nat) (ops : Array Oper) (Q : Exit → Act → World → Prop) (lo : Nat) (σ : Sg E) : Prop where
  run : ∀ listed a w, isTo ops lo listed → Holds C σ a w → wpAnyIn (MF r) 0 Pg .any ops Q (ops.size - lo) listed a w

/-- What is said of waits, as the text has them: 'tab': before which operations each one surely comes. -/
structure Waits (ops : Array Oper) (B : Nat → Nat → Prop) : Prop where
  low : ∀ j o, ops[j]? = some o → ∀ e ∈ o.after, Region.binds .any e = true → e.on < j
  up : ∀ i j, B i j → ∃ o, ops[j]? = some o ∧ ∃ e ∈ o.after, Region.binds .any e = true ∧ (e.on = i ∨ B i e.on)

theorem getD_set {listed : Array Bool} {i k : Nat} (hi : i < listed.size) : (listed.setIfInBounds i true).getD k true = if k = i then true else listed.getD k true := by
  by_cases e : k = i
  · subst e; simp [Array.getD_eq_getD_getElem?, hi]
  simp [Array.getD_eq_getD_getElem?, Array.getElem?_setIfInBounds_ne (Ne.symm e), e]

theorem gany_seg {r : Option Nat} {ops : Array Oper} {Q : Exit → Act → World → Prop} {lo len : Nat} {R : Nat → Rec} {B : Nat → Nat → Prop} (hlen : lo + len ≤ ops.size) (hB : Waits ops B)
    (hcut : ∀ j, lo + len ≤ j → j < ops.size → ∀ k, k < len → B (lo + k) j)
    (hfree : ∀ i j, i < j → j < len → B (lo + i) (lo + j) ∨ Free ops R (lo + i) (lo + j))
    (hrun : ∀ m, m < len → ∃ o, ops[lo + m]? = some o ∧ (R (lo + m)).dst = o.dst ∧ Eff C r ops o (segSt R lo σ (fun _ => true) m) (R (lo + m)).I (R (lo + m)).g (R (lo + m)).ps)
    (hK : gany C r ops Q (lo + len) (segSt R lo σ (fun _ => true) len)) : gany C r ops Q lo σ := by
  have main : ∀ (c : Nat) (listed : Array Bool) (a : Act) (w : World), listed.size = ops.size → cnt (lst listed) lo len = c → (∀ k, k < lo → lst listed k = true) → (∀ k, lo + len ≤ k → k < ops.size → lst listed k = false) →
      (∀ j o, ops[j]? = some o → lo ≤ j → j < lo + len → lst listed j = true → ∀ e ∈ o.after, Region.binds .any e = true → lst listed e.on = true) →
      Holds C (segSt R lo σ (lst listed) len) a w → wpAnyIn (MF r) 0 Pg .any ops Q (ops.size - (lo + len) + c) listed a w := by
    intro c
    induction c with
    | zero =>
      intro listed a w hsz hc hlow hhi hdc H
      have hall := cnt_zero hc
      have hst : ∀ m, m ≤ len → segSt R lo σ (lst listed) m = segSt R lo σ (fun _ => true) m := fun m => by
        induction m with
        | zero => intro _; rfl
        | succ m ih =>
          intro hm
          simp only [segSt, hall m (by omega), ih (by omega)]
      rw [hst len (Nat.le_refl _)] at H
      refine hK.run listed a w ⟨hsz, fun k hk => ?_⟩ H
      by_cases h1 : k < lo
      · rw [hlow k h1]; simp; omega
      by_cases h2 : k < lo + len
      · have := hall (k - lo) (by omega)
        rw [show lo + (k - lo) = k by omega] at this
        rw [this]; simp [h2]
      rw [hhi k (by omega) hk]; simp [h2]
    | succ c ih =>
      intro listed a w hsz hc hlow hhi hdc H
      -- the operations that surely come before one that may be next are done
      have hB' : ∀ j, (∀ o, ops[j]? = some o → ∀ e ∈ o.after, Region.binds .any e = true → lst listed e.on = true) → ∀ i, lo ≤ i → B i j → lst listed i = true := by
        intro j
        induction j using Nat.strongRecOn with
        | _ j ihj =>
          intro hj i hi hb
          obtain ⟨o, ho, e, he, hbe, hcase⟩ := hB.up i j hb
          have hon := hj o ho e he hbe
          rcases hcase with rfl | hb'
          · exact hon
          have hlt := hB.low j o ho e he hbe
          refine ihj e.on hlt (fun o' ho' e' he' hbe' => ?_) i hi hb'
          by_cases h1 : e.on < lo
          · have := hB.low _ _ ho' _ he' hbe'
            exact hlow _ (by omega)
          by_cases h2 : e.on < lo + len
          · exact hdc _ _ ho' (by omega) h2 hon _ he' hbe'
          have hlt2 : e.on < ops.size := (Array.getElem?_eq_some_iff.1 ho').1
          rw [hhi _ (by omega) hlt2] at hon; cases hon
      obtain ⟨q0, hq0, hx0, hfirst⟩ := cnt_first (X := lst listed) (lo := lo) (m := len) (by omega)
      have hne : Region.ready .any ops listed ≠ [] := by
        intro hnil
        have hmem : lo + q0 ∈ Region.ready .any ops listed := by
          obtain ⟨o, ho⟩ : ∃ o, ops[lo + q0]? = some o := ⟨ops[lo + q0], by rw [Array.getElem?_eq_getElem]⟩
          refine mem_ready.2 ⟨hx0, o, ho, fun e he hbe => ?_⟩
          have hlt := hB.low _ _ ho e he hbe
          have hl : lst listed e.on = true := by
            by_cases h1 : e.on < lo
            · exact hlow _ h1
            have := hfirst (e.on - lo) (by omega)
            rwa [show lo + (e.on - lo) = e.on by omega] at this
          have hsz' : e.on < listed.size := by omega
          simp only [lst, Array.getD_eq_getD_getElem?, Array.getElem?_eq_getElem hsz', Option.getD_some] at hl ⊢
          exact hl
        rw [hnil] at hmem; cases hmem
      rw [show ops.size - (lo + len) + (c + 1) = (ops.size - (lo + len) + c) + 1 by omega]
      refine ⟨fun h0 => absurd h0 hne, fun i hi => ?_⟩
      obtain ⟨hun, o, ho, hall⟩ := mem_ready.1 hi
      have hilt : i < ops.size := (Array.getElem?_eq_some_iff.1 ho).1
      have hallt : ∀ e ∈ o.after, Region.binds .any e = true → lst listed e.on = true := fun e he hbe => by
        have h1 := hall e he hbe
        have hlt := hB.low _ _ ho e he hbe
        have hsz' : e.on < listed.size := by omega
        simp only [lst, Array.getD_eq_getD_getElem?, Array.getElem?_eq_getElem hsz', Option.getD_some] at h1 ⊢
        exact h1
      have hilo : lo ≤ i := by
        apply Nat.le_of_not_lt; intro h1
        rw [show listed.getD i true = lst listed i from rfl, hlow i h1] at hun; cases hun
      have hihi : i < lo + len := by
        apply Nat.lt_of_not_le; intro h1
        have := hB' i (fun o' ho' => by rw [ho] at ho'; cases ho'; exact hallt) (lo + q0) (by omega) (hcut i h1 hilt q0 hq0)
        rw [hx0] at this; cases this
      obtain ⟨q, rfl⟩ : ∃ q, i = lo + q := ⟨i - lo, by omega⟩
      have hqlen : q < len := by omega
      have hXq : lst listed (lo + q) = false := hun
      -- who is apart from whom
      have fr1 : ∀ m, m < q → lst listed (lo + m) = false → Free ops R (lo + m) (lo + q) := fun m hm hx => by
        rcases hfree m q hm hqlen with hb | hf
        · have := hB' (lo + q) (fun o' ho' => by rw [ho] at ho'; cases ho'; exact hallt) (lo + m) (by omega) hb
          rw [hx] at this; cases this
        exact hf
      have fr2 : ∀ k, q < k → k < len → lst listed (lo + k) = true → Free ops R (lo + q) (lo + k) := fun k hk hkl hx => by
        rcases hfree q k hk hkl with hb | hf
        · have := hB' (lo + k) (fun o' ho' => hdc _ o' ho' (by omega) (by omega) hx) (lo + q) (by omega) hb
          rw [hXq] at this; cases this
        exact hf
      obtain ⟨o', ho', hdst, heff⟩ := hrun q hqlen
      rw [ho] at ho'; cases ho'
      have hmin : min len q = q := by omega
      have hag : Agree ops o (R (lo + q)).I (segSt R lo σ (fun _ => true) q) (segSt R lo σ (lst listed) len) := by
        refine ⟨by rw [(segSt_A len).1, (segSt_A q).1], by rw [(segSt_A len).2, (segSt_A q).2], fun t ht => ?_, fun id hid => ?_⟩
        · have := segSt_fr (R := R) (σ := σ) (t := t) hXq (fun m hm hx => (fr1 m hm hx).r1 o ho t ht) len (fun k hk hkl hx => (fr2 k hk hkl hx).r2 o ho t ht)
          rwa [hmin] at this
        have := segSt_h (R := R) (σ := σ) (id := id) hXq (fun m hm hx p hp e => (fr1 m hm hx).o1 p hp (e ▸ hid)) len (fun k hk hkl hx p hp e => (fr2 k hk hkl hx).o2 p hp (e ▸ hid))
        rwa [hmin] at this
      have hw := heff _ hag a w H (wpAnyIn (MF r) 0 Pg .any ops Q (ops.size - (lo + len) + c) (listed.setIfInBounds (lo + q) true)) Q fun a' w' H' => ?_
      · unfold wpOpIn
        rw [ho]
        exact hw
      have hsz2 : lo + q < listed.size := by omega
      have hl' : ∀ k, lst (listed.setIfInBounds (lo + q) true) k = if k = lo + q then true else lst listed k := fun k => getD_set hsz2
      have hX' : lst (listed.setIfInBounds (lo + q) true) (lo + q) = true := by rw [hl']; simp
      have hsame : ∀ m, m ≠ q → lst (listed.setIfInBounds (lo + q) true) (lo + m) = lst listed (lo + m) := fun m hm => by
        rw [hl', if_neg (by omega)]
      refine ih _ a' w' (by simpa using hsz) ?_ (fun k hk => ?_) (fun k hk hk2 => ?_) (fun j oj hoj h1 h2 hx e he hbe => ?_) ?_
      · have := (cnt_upd hXq hX' hsame len).2 hqlen
        omega
      · rw [hl', if_neg (by omega)]; exact hlow k hk
      · rw [hl', if_neg (by omega)]; exact hhi k hk hk2
      · rw [hl']
        split
        · rfl
        rw [hl'] at hx
        split at hx
        · rename_i e1
          subst e1
          rw [ho] at hoj; cases hoj
          exact hallt e he hbe
        exact hdc j oj hoj h1 h2 hx e he hbe
      rw [(segSt_list (ops := ops) (R := R) (σ := σ) hXq hX' hsame len fr2).2 hqlen, hdst]
      exact H'
  refine ⟨fun listed a w ⟨hsz, hl⟩ H => ?_⟩
  have hun : ∀ m, m ≤ len → cnt (lst listed) lo m = m ∧ segSt R lo σ (lst listed) m = σ := fun m => by
    induction m with
    | zero => intro _; exact ⟨rfl, rfl⟩
    | succ m ih =>
      intro hm
      obtain ⟨i1, i2⟩ := ih (by omega)
      have hx : lst listed (lo + m) = false := by rw [hl _ (by omega)]; simp
      simp only [cnt, segSt, hx, i1, i2, Bool.false_eq_true, if_false, and_self]
  have := main len listed a w hsz (hun len (Nat.le_refl _)).1 (fun k hk => by rw [hl k (by omega)]; simp [hk]) (fun k hk hk2 => by rw [hl k hk2]; simp; omega)
    (fun j o ho h1 h2 hx => by rw [hl j (by omega)] at hx; simp at hx; omega) (by rw [(hun len (Nat.le_refl _)).2]; exact H)
  rwa [show ops.size - (lo + len) + len = ops.size - lo by omega] at this
end Go.Gh

/- What a piece of code does to ghost states. -/
namespace Go.Gh
open Go.RowKit
variable {Pg : Program} {E : Env Pg} {C : Cx E} {σ : Sg E} {a : Act} {w : World} {π : PM} {ρ : RM} {S : Nat → Prop} {r : Option Nat}

inductive GE where
  | normal
  | exit (id : Nat)
  | goto (l : Nat)
  | ret
  | panic (p : P)

def GPost (C : Cx E) (Q : GE → Sg E → Prop) : Exit → Act → World → Prop
  | .normal, a, w => ∃ σ, Holds C σ a w ∧ Q .normal σ
  | .exit id, a, w => ∃ σ, Holds C σ a w ∧ Q (.exit id) σ
  | .goto l, a, w => ∃ σ, Holds C σ a w ∧ Q (.goto l) σ
  | .ret, a, w => ∃ σ, Holds C σ a w ∧ Q .ret σ
  | .panic chain, a, w => ∃ σ p v π ρ S, chain = [{ v, recovered := false }] ∧ PRel π p v ∧ St C σ a w π ρ S ∧ Q (.panic p) σ
  | .outgrown, _, _ => False

theorem GPost.mono {Q Q' : GE → Sg E → Prop} (h : ∀ e σ, Q e σ → Q' e σ) {e : Exit} {a : Act} {w : World} (k : GPost C Q e a w) : GPost C Q' e a w := by
  cases e with
  | panic ch => obtain ⟨σ, p, v, π, ρ, S, e, hp, hs, hq⟩ := k; exact ⟨σ, p, v, π, ρ, S, e, hp, hs, h _ _ hq⟩
  | outgrown => exact k
  | _ => obtain ⟨σ, hs, hq⟩ := k; exact ⟨σ, hs, h _ _ hq⟩

/-- THE CODE LEADS FROM A GHOST STATE TO WHAT IS ASKED. -/
structure gwp (C : Cx E) (r : Option Nat) (c : Code) (Q : GE → Sg E → Prop) (σ : Sg E) : Prop where
  run : ∀ a w, Holds C σ a w → c.wpIn (MF r) 0 Pg (GPost C Q) a w

def gthen (K : Sg E → Prop) (Q : GE → Sg E → Prop) : GE → Sg E → Prop
  | .normal, σ => K σ
  | e, σ => Q e σ
def gblock (id : Nat) (Q : GE → Sg E → Prop) : GE → Sg E → Prop
  | .exit i, σ => if i = id then Q .normal σ else Q (.exit i) σ
  | e, σ => Q e σ

section
variable {Q : GE → Sg E → Prop}
theorem gwp_mono {c : Code} {Q' : GE → Sg E → Prop} (h : gwp C r c Q σ) (hq : ∀ e σ, Q e σ → Q' e σ) : gwp C r c Q' σ :=
  ⟨fun a w H => wpIn_mono (h.run a w H) fun _ _ _ k => k.mono hq⟩
theorem gwp_skip (h : Q .normal σ) : gwp C r .skip Q σ := ⟨fun _ _ H => wpIn_skip ⟨σ, H, h⟩⟩
theorem gwp_label {l : Nat} (h : Q .normal σ) : gwp C r (.label l) Q σ := ⟨fun _ _ H => wpIn_label ⟨σ, H, h⟩⟩
theorem gwp_exit {id : Nat} (h : Q (.exit id) σ) : gwp C r (.exit id) Q σ := ⟨fun _ _ H => wpIn_exit ⟨σ, H, h⟩⟩
theorem gwp_ret (h : Q .ret σ) : gwp C r .ret Q σ := ⟨fun _ _ H => wpIn_ret ⟨σ, H, h⟩⟩
theorem gwp_seq {x y : Code} (h : gwp C r x (gthen (gwp C r y Q) Q) σ) : gwp C r (.seq x y) Q σ := ⟨fun a w H => wpIn_seq (wpIn_mono (h.run a w H) fun e a' w' k => by
  cases e with
  | normal => obtain ⟨σ', H', hq⟩ := k; exact gwp.run hq a' w' H'
  | _ => exact k)⟩
theorem gwp_block {id : Nat} {c : Code} (h : gwp C r c (gblock id Q) σ) : gwp C r (.block id c) Q σ := ⟨fun a w H => wpIn_block (wpIn_mono (h.run a w H) fun e a' w' k => by
  cases e with
  | exit i =>
    obtain ⟨σ', H', hq⟩ := k
    simp only [gblock] at hq
    simp only [Exit.inBlock]
    split
    · rename_i e; rw [if_pos e] at hq; exact ⟨σ', H', hq⟩
    rename_i e; rw [if_neg e] at hq; exact ⟨σ', H', hq⟩
  | _ => exact k)⟩
theorem gwp_cond {c : Operand} {x y : Code} {b : Bool} (hb : gev σ.fr c = .p (.bool b)) (ht : b = true → gwp C r x Q σ) (hf : b = false → gwp C r y Q σ) : gwp C r (.cond c x y) Q σ := ⟨fun a w H => by
  obtain ⟨π, ρ, S, H'⟩ := H
  have hv := gev_ok H' c
  rw [hb] at hv
  simp only [VRel, PRel] at hv
  refine wpIn_cond hv ?_
  cases b
  · exact (hf rfl).run a w ⟨π, ρ, S, H'⟩
  exact (ht rfl).run a w ⟨π, ρ, S, H'⟩⟩
theorem gwp_loop {c : Code} (I : Nat → Sg E → Prop) (n₀ : Nat) (h₀ : I n₀ σ) (round : ∀ n σ, I n σ → gwp C r c (gthen (fun σ' => ∃ n', n' < n ∧ I n' σ') Q) σ) : gwp C r (.loop c) Q σ := ⟨fun a w H =>
  wpIn_loop_ghost (fun n a w => ∃ σ, Holds C σ a w ∧ I n σ) n₀ ⟨σ, H, h₀⟩ fun n a w ⟨σ, H, hI⟩ => wpIn_mono ((round n σ hI).run a w H) fun e a' w' k => by
    cases e with
    | normal => obtain ⟨σ', H', n', hn, hI'⟩ := k; exact ⟨n', hn, σ', H', hI'⟩
    | _ => exact k⟩

/-! Regions in order -/
structure gops (C : Cx E) (r : Option Nat) (ops : Array Oper) (Q : GE → Sg E → Prop) (l : List Oper) (σ : Sg E) : Prop where
  run : ∀ a w, Holds C σ a w → wpListIn (MF r) 0 Pg ops (GPost C Q) l a w
theorem gops_nil {ops : Array Oper} (h : Q .normal σ) : gops C r ops Q [] σ := ⟨fun _ _ H => ⟨σ, H, h⟩⟩
theorem gwp_region {id : Nat} {ops : Array Oper} (h : gops C r ops Q ops.toList σ) : gwp C r (.region id ops false) Q σ := ⟨fun a w H => wpIn_region_list (h.run a w H)⟩
theorem gops_eff {ops : Array Oper} {o : Oper} {rest : List Oper} {I : List Nat} {g : G} {ps : List (Nat × Ob)} (he : Eff C r ops o σ I g ps) (h : gops C r ops Q rest (σ.put o.dst g ps)) : gops C r ops Q (o :: rest) σ :=
  ⟨fun a w H => he σ ⟨rfl, rfl, fun _ _ => rfl, fun _ _ => rfl⟩ a w H (wpListIn (MF r) 0 Pg ops (GPost C Q) rest) (GPost C Q) fun a' w' H' => h.run a' w' H'⟩

/-- An operation whose outcome is not fixed. -/
def EffN (C : Cx E) (r : Option Nat) (ops : Array Oper) (o : Oper) (σ : Sg E) (K : Sg E → Prop) (Q : GE → Sg E → Prop) : Prop :=
  ∀ a w, Holds C σ a w → ∀ K' : Act → World → Prop, (∀ σ' a' w', K σ' → Holds C σ' a' w' → K' a' w') → wpO r Pg ops (GPost C Q) o K' a w
theorem gops_n {ops : Array Oper} {o : Oper} {rest : List Oper} (he : EffN C r ops o σ (gops C r ops Q rest) Q) : gops C r ops Q (o :: rest) σ :=
  ⟨fun a w H => he a w H (wpListIn (MF r) 0 Pg ops (GPost C Q) rest) fun _ a' w' hk H' => gops.run hk a' w' H'⟩
/-! Regions in any order -/
theorem Holds.drew (H : Holds C σ a w) (n : Nat) : Holds C σ a { w with drawn := n } := by
  obtain ⟨π, ρ, S, H⟩ := H
  exact ⟨π, ρ, S, H.size, H.vals, H.defs, ⟨H.rel.know, H.rel.objs, H.rel.apart, H.rel.sep, E.stable H.rel.res H.rel.inb (Nat.le_refl _) (fun _ _ => ⟨rfl, rfl⟩) (PM.le_refl _) H.rel.know, H.rel.inb⟩,
    ⟨H.trans.size, H.trans.os, H.trans.tape, H.trans.output, H.trans.keep, H.trans.le, H.trans.own⟩, H.step, H.wfr, H.wfh, H.wfd⟩

theorem gwp_regionD {id : Nat} {ops : Array Oper} (hm : Pg.follows .mixedOrders = true) (h : gany C r ops (GPost C Q) 0 σ) : gwp C r (.region id ops true) Q σ := ⟨fun a w H =>
  wpIn_region_any hm (h.run _ a _ ⟨by simp, fun k hk => by simp [lst, Array.getD_eq_getD_getElem?, hk]⟩ (H.drew _))⟩

theorem gany_end {ops : Array Oper} {n : Nat} (hn : ops.size = n) (h : Q .normal σ) : gany C r ops (GPost C Q) n σ := ⟨fun listed a w hl H => by
  subst hn
  rw [Nat.sub_self]
  refine ⟨?_, σ, H, h⟩
  cases hr : Region.ready .any ops listed with
  | nil => rfl
  | cons i l =>
    have : i ∈ Region.ready .any ops listed := by rw [hr]; simp
    obtain ⟨h1, o, ho, _⟩ := mem_ready.1 this
    have hi := (Array.getElem?_eq_some_iff.1 ho).1
    have := hl.2 i hi
    simp only [lst] at this
    rw [h1] at this
    simp at this
    omega⟩

theorem gany_one {ops : Array Oper} {lo : Nat} {o : Oper} {B : Nat → Nat → Prop} (ho : ops[lo]? = some o) (hB : Waits ops B) (hcut : ∀ j, lo < j → j < ops.size → B lo j)
    (he : EffN C r ops o σ (gany C r ops (GPost C Q) (lo + 1)) Q) : gany C r ops (GPost C Q) lo σ := ⟨fun listed a w hl H => by
  have hlo : lo < ops.size := (Array.getElem?_eq_some_iff.1 ho).1
  rw [show ops.size - lo = (ops.size - (lo + 1)) + 1 by omega]
  have hun : ∀ k, k < ops.size → listed.getD k true = decide (k < lo) := hl.2
  have hfalse : ∀ k, k < ops.size → (listed.getD k false = decide (k < lo)) := fun k hk => by
    have := hun k hk
    rw [Array.getD_eq_getD_getElem?, Array.getElem?_eq_getElem (by rw [hl.1]; exact hk)] at this ⊢
    exact this
  have hready : lo ∈ Region.ready .any ops listed := mem_ready.2 ⟨by rw [hun lo hlo]; simp, o, ho, fun e hem hbe => by
    have hlt := hB.low _ _ ho e hem hbe
    rw [hfalse _ (by omega)]; simp [hlt]⟩
  refine ⟨fun h0 => (by rw [h0] at hready; cases hready), fun i hi => ?_⟩
  obtain ⟨h1, o', ho', hall⟩ := mem_ready.1 hi
  have hisz : i < ops.size := (Array.getElem?_eq_some_iff.1 ho').1
  have hB' : ∀ j, (∀ o, ops[j]? = some o → ∀ e ∈ o.after, Region.binds .any e = true → listed.getD e.on false = true) → ∀ i, B i j → i < lo := by
    intro j
    induction j using Nat.strongRecOn with
    | _ j ihj =>
      intro hj i hb
      obtain ⟨o, ho, e, hem, hbe, hcase⟩ := hB.up i j hb
      have hon := hj o ho e hem hbe
      have hlt := hB.low j o ho e hem hbe
      have hjs : j < ops.size := (Array.getElem?_eq_some_iff.1 ho).1
      rw [hfalse _ (by omega)] at hon
      rcases hcase with rfl | hb'
      · simpa using hon
      refine ihj e.on hlt (fun o' ho'' e' he' hbe' => ?_) i hb'
      have := hB.low _ _ ho'' _ he' hbe'
      rw [hfalse _ (by omega)]
      simp at hon ⊢; omega
  have hilo : i = lo := by
    rw [hun i hisz] at h1
    simp at h1
    rcases Nat.lt_or_ge lo i with h2 | h2
    · have := hB' i (fun o'' ho'' => by rw [ho'] at ho''; cases ho''; exact hall) lo (hcut i h2 hisz)
      omega
    omega
  subst hilo
  rw [ho] at ho'; cases ho'
  unfold wpOpIn
  rw [ho]
  refine he a w H _ fun σ' a' w' hk H' => gany.run hk _ a' w' ⟨by simpa using hl.1, fun k hk => ?_⟩ H'
  have := getD_set (listed := listed) (k := k) (i := i) (by rw [hl.1]; exact hisz)
  simp only [lst]
  rw [this]
  split
  · rename_i e; subst e; simp
  rename_i e
  rw [hun k hk]
  congr 1
  apply propext
  omega⟩

/-! Panics -/
theorem effN_panic {ops : Array Oper} {o : Oper} {x : Operand} {t : TypeId} {v : P} {K : Sg E → Prop} (hx : o.op = .panic x) (hw : gwant ops σ.fr o = some true) (hv : gev σ.fr x = .p (.iface t v)) (h : Q (.panic (.iface t v)) σ) : EffN C r ops o σ K Q :=
  fun a w ⟨π, ρ, S, H⟩ K' _ => by
    have hwt := gwant_ok H hw
    have hvr := gev_ok H x
    rw [hv] at hvr
    simp only [VRel] at hvr
    have hvr0 := hvr
    simp only [PRel] at hvr
    obtain ⟨u, hu, _⟩ := hvr
    unfold wpO
    rw [hwt]
    simp only [if_true]
    refine ⟨fun _ _ => trivial, ?_⟩
    have hsem : Oper.semAt (MF r).round a.eval o = execOp a.eval o := by
      cases r with
      | none => rfl
      | some l => exact Oper.semAt_some l _ _ fun cl hcl => by rw [hcl] at hx; cases hx
    have hrun : (execOp a.eval o).run Pg w = .halt (.panic (.iface t u)) w := by
      obtain ⟨d, op, ty, ps, af, gd⟩ := o
      simp only at hx
      subst hx
      simp [execOp, hu, Instr.panic, goPanic]
    rw [hsem, hrun]
    exact ⟨σ, _, _, π, ρ, S, rfl, hu ▸ hvr0, H, h⟩
end
end Go.Gh

/- Objects under other numbers; calls. -/
namespace Go.Gh
open Go.RowKit

mutual
def G.ren (θ : Nat → Nat) : G → G
  | .p v => .p v
  | .nils => .nils
  | .agg cs => .agg (G.rens θ cs)
  | .tuple cs => .tuple (G.rens θ cs)
  | .fn f a b => .fn f (G.rens θ a) (G.rens θ b)
  | .iface t x => .iface t (G.ren θ x)
  | .ptr cs => .ptr (G.rens θ cs)
  | .ref i o => .ref (θ i) o
  | .own i n => .own (θ i) n
  | .aref i n o => .aref (θ i) n o
  | .fsl i o n => .fsl (θ i) o n
  | .map i => .map (θ i)
  | .abs => .abs
  | .undef => .undef
def G.rens (θ : Nat → Nat) : List G → List G
  | [] => []
  | g :: gs => G.ren θ g :: G.rens θ gs
end
def Ob.ren (θ : Nat → Nat) : Ob → Ob
  | .cells cs fz => .cells (G.rens θ cs) fz
  | o => o

theorem one_ren (θ : Nat → Nat) (g : G) : (g.ren θ).one = g.one := by cases g <;> simp only [G.ren, G.one]
theorem rens_map (θ : Nat → Nat) : ∀ (gs : List G), G.rens θ gs = gs.map (G.ren θ)
  | [] => rfl
  | g :: gs => by simp only [G.rens, List.map_cons, rens_map θ gs]

mutual
theorem men_ren {θ : Nat → Nat} {j : Nat} : ∀ {g : G}, (g.ren θ).men j = true → ∃ i, g.men i = true ∧ θ i = j
  | .p _, h => by simp [G.ren, G.men] at h
  | .nils, h => by simp [G.ren, G.men] at h
  | .abs, h => by simp [G.ren, G.men] at h
  | .undef, h => by simp [G.ren, G.men] at h
  | .agg cs, h => by simp only [G.ren, G.men] at h ⊢; exact mens_ren h
  | .tuple cs, h => by simp only [G.ren, G.men] at h ⊢; exact mens_ren h
  | .ptr cs, h => by simp only [G.ren, G.men] at h ⊢; exact mens_ren h
  | .iface t x, h => by simp only [G.ren, G.men] at h ⊢; exact men_ren h
  | .fn f a b, h => by
    simp only [G.ren, G.men, Bool.or_eq_true] at h ⊢
    rcases h with h | h
    · obtain ⟨i, h1, h2⟩ := mens_ren h; exact ⟨i, .inl h1, h2⟩
    obtain ⟨i, h1, h2⟩ := mens_ren h; exact ⟨i, .inr h1, h2⟩
  | .ref i o, h => by simp only [G.ren, G.men, beq_iff_eq] at h ⊢; exact ⟨i, rfl, h⟩
  | .own i o, h => by simp only [G.ren, G.men, beq_iff_eq] at h ⊢; exact ⟨i, rfl, h⟩
  | .aref i n o, h => by simp only [G.ren, G.men, beq_iff_eq] at h ⊢; exact ⟨i, rfl, h⟩
  | .fsl i n o, h => by simp only [G.ren, G.men, beq_iff_eq] at h ⊢; exact ⟨i, rfl, h⟩
  | .map i, h => by simp only [G.ren, G.men, beq_iff_eq] at h ⊢; exact ⟨i, rfl, h⟩
theorem mens_ren {θ : Nat → Nat} {j : Nat} : ∀ {gs : List G}, G.mens j (G.rens θ gs) = true → ∃ i, G.mens i gs = true ∧ θ i = j
  | [], h => by simp [G.rens, G.mens] at h
  | g :: gs, h => by
    simp only [G.rens, G.mens, Bool.or_eq_true] at h ⊢
    rcases h with h | h
    · obtain ⟨i, h1, h2⟩ := men_ren h; exact ⟨i, .inl h1, h2⟩
    obtain ⟨i, h1, h2⟩ := mens_ren h; exact ⟨i, .inr h1, h2⟩
end

mutual
theorem VRel_ren {π : PM} {ρ : RM} {y : Value} {θ : Nat → Nat} : ∀ {g : G} {v : Value}, VRel π ρ y (g.ren θ) v ↔ VRel π (fun i => ρ (θ i)) y g v
  | .p _, v => by simp only [G.ren, VRel]
  | .nils, v => by simp only [G.ren, VRel]
  | .abs, v => by simp only [G.ren, VRel]
  | .undef, v => by simp only [G.ren, VRel]
  | .agg cs, v => by simp only [G.ren, VRel, VRels_ren (gs := cs)]
  | .tuple cs, v => by simp only [G.ren, VRel, VRels_ren (gs := cs)]
  | .ptr cs, v => by simp only [G.ren, VRel, VRow_ren (gs := cs)]
  | .iface t x, v => by simp only [G.ren, VRel, VRel_ren (g := x)]
  | .fn f a b, v => by simp only [G.ren, VRel, VRels_ren (gs := a), VRels_ren (gs := b)]
  | .ref i o, v => by simp only [G.ren, VRel]
  | .own i o, v => by simp only [G.ren, VRel]
  | .aref i n o, v => by simp only [G.ren, VRel]
  | .fsl i n o, v => by simp only [G.ren, VRel]
  | .map i, v => by simp only [G.ren, VRel]
theorem VRels_ren {π : PM} {ρ : RM} {y : Value} {θ : Nat → Nat} : ∀ {gs : List G} {vs : List Value}, VRels π ρ y (G.rens θ gs) vs ↔ VRels π (fun i => ρ (θ i)) y gs vs
  | [], vs => by simp only [G.rens, VRels]
  | g :: gs, vs => by simp only [G.rens, VRels, VRel_ren (g := g), VRels_ren (gs := gs)]
theorem VRow_ren {π : PM} {ρ : RM} {y : Value} {b : Nat} {θ : Nat → Nat} : ∀ {gs : List G} {o : Nat}, VRow π ρ y b o (G.rens θ gs) ↔ VRow π (fun i => ρ (θ i)) y b o gs
  | [], o => by simp only [G.rens, VRow]
  | g :: gs, o => by simp only [G.rens, VRow, VRel_ren (g := g), VRow_ren (gs := gs), one_ren]
end

theorem live_ren {ρ : RM} {θ : Nat → Nat} {i : Nat} {ob : Ob} : live ρ (θ i) (ob.ren θ) = live (fun k => ρ (θ k)) i ob := by cases ob <;> rfl
theorem ORel_ren {π : PM} {ρ : RM} {y : Value} {w : World} {θ : Nat → Nat} {i : Nat} {ob : Ob} : ORel π ρ y w (θ i) (ob.ren θ) ↔ ORel π (fun k => ρ (θ k)) y w i ob := by
  cases ob with
  | cells cs fz =>
    have : (∀ c ∈ G.rens θ cs, c.one = true) ↔ ∀ c ∈ cs, c.one = true := by
      rw [rens_map]
      simp only [List.mem_map, forall_exists_index, and_imp, forall_apply_eq_imp_iff₂, one_ren]
    simp only [Ob.ren, ORel, VRels_ren, this]
  | _ => exact Iff.rfl
theorem Ob.men_ren {θ : Nat → Nat} {j : Nat} {ob : Ob} (h : (ob.ren θ).men j = true) : ∃ i, ob.men i = true ∧ θ i = j := by
  cases ob with
  | cells cs fz => exact mens_ren h
  | _ => simp [Ob.ren, Ob.men] at h
theorem Ob.ren_none {θ : Nat → Nat} {ob : Ob} : ob.ren θ = .none ↔ ob = .none := by cases ob <;> simp [Ob.ren]

variable {Pg : Program} {E : Env Pg} {C : Cx E} {σ : Sg E} {a : Act} {w : World} {π : PM} {ρ : RM} {S : Nat → Prop} {r : Option Nat}

/-- THE FRAME: what is not handed on stays. -/
theorem Rel.frame {A A' : E.α} {h h1 : Nat → Ob} {J : List Nat} {w' : World} {π' : PM} {ρ' : RM} {S' : Nat → Prop} (R : Rel E π ρ h A S w) (R1 : Rel E π' ρ' h1 A' S' w') (hJ : ∀ j, j ∉ J → h1 j = .none)
    (hT : Trans (Own ρ (rhp h J) S) w π (Own ρ' h1 S') w' π') (hout : ∀ j, j ∉ J → h j ≠ .none → ρ' j = ρ j) (hmen : ∀ j i, j ∉ J → (h j).men i = true → RStep (ρ i) (ρ' i)) :
    Rel E π' ρ' (fun j => if j ∈ J then h1 j else h j) A' S' w' ∧ Trans (Own ρ h S) w π (Own ρ' (fun j => if j ∈ J then h1 j else h j) S') w' π' := by
  have hfr : ∀ id b, id ∉ J → live ρ id (h id) = some b → b < w.heap.size ∧ ¬ Own ρ (rhp h J) S b := fun id b hi hb => by
    refine ⟨(R.objs id).lt hb, fun ho => ?_⟩
    rcases ho with ho | ⟨j, hj⟩
    · exact R.sep id b hb ho
    simp only [rhp] at hj
    split at hj
    · rename_i hjI
      exact R.apart id j b (fun e => hi (e ▸ hjI)) hb hj
    simp [live] at hj
  have hlive : ∀ id, id ∉ J → live ρ' id (h id) = live ρ id (h id) := fun id hi => by
    by_cases e : h id = .none
    · rw [e]; rfl
    have := hout id hi e
    cases h id <;> simp [live, this]
  have hno : ∀ b id, id ∉ J → live ρ id (h id) = some b → ¬ Own ρ' h1 S' b := fun b id hi hb ho => by
    obtain ⟨h1, h2⟩ := hfr id b hi hb
    rcases hT.own b ho with h3 | h3
    · exact h2 h3
    omega
  refine ⟨⟨R1.know, fun id => ?_, fun i j b hij hi hj => ?_, fun i b hi => ?_, R1.res, R1.inb⟩, ⟨hT.size, hT.os, hT.tape, hT.output, fun b hb hn => ?_, hT.le, fun b hb => ?_⟩⟩
  · split
    · exact R1.objs id
    rename_i hi
    by_cases e : h id = .none
    · rw [e]; trivial
    refine (R.objs id).keep hT.le (hout id hi e) (fun i hm => hmen id i hi hm) fun b hb => ?_
    obtain ⟨h1, h2⟩ := hfr id b hi hb
    exact hT.keep b h1 h2
  · split at hi
    · split at hj
      · exact R1.apart i j b hij hi hj
      rename_i hjI
      rw [hlive j hjI] at hj
      exact hno b j hjI hj (.inr ⟨i, hi⟩)
    rename_i hiI
    rw [hlive i hiI] at hi
    split at hj
    · exact hno b i hiI hi (.inr ⟨j, hj⟩)
    rename_i hjI
    rw [hlive j hjI] at hj
    exact R.apart i j b hij hi hj
  · split at hi
    · exact R1.sep i b hi
    rename_i hiI
    rw [hlive i hiI] at hi
    exact fun hs => hno b i hiI hi (.inl hs)
  · refine hT.keep b hb fun ho => hn ?_
    rcases ho with ho | ⟨j, hj⟩
    · exact .inl ho
    simp only [rhp] at hj
    split at hj
    · exact .inr ⟨j, hj⟩
    simp [live] at hj
  have key : Own ρ' h1 S' b ∨ ∃ id, live ρ id (h id) = some b := by
    rcases hb with hb | ⟨j, hj⟩
    · exact .inl (.inl hb)
    simp only at hj
    split at hj
    · exact .inl (.inr ⟨j, hj⟩)
    rename_i hjI
    rw [hlive j hjI] at hj; exact .inr ⟨j, hj⟩
  rcases key with k | k
  · rcases hT.own b k with k' | k'
    · left
      rcases k' with k' | ⟨j, hj⟩
      · exact .inl k'
      simp only [rhp] at hj
      split at hj
      · exact .inr ⟨j, hj⟩
      simp [live] at hj
    exact .inr k'
  exact .inl (.inr k)

/-! Contracts -/
inductive GRes (E : Env Pg) where
  | ok (g : G) (h : Nat → Ob) (A : E.α)
  | panic (p : P) (h : Nat → Ob) (A : E.α)

structure Behind (E : Env Pg) (π : PM) (ρ : RM) (h : Nat → Ob) (S : Nat → Prop) (w : World) (π' : PM) (ρ' : RM) (h' : Nat → Ob) (A' : E.α) (S' : Nat → Prop) (w' : World) : Prop where
  rel : Rel E π' ρ' h' A' S' w'
  trans : Trans (Own ρ h S) w π (Own ρ' h' S') w' π'
  step : ∀ j, j < 100 → RStep (ρ j) (ρ' j)
  wf : ∀ j id, (h' j).men id = true → h' id ≠ .none

def CallPost (E : Env Pg) (π : PM) (ρ : RM) (h : Nat → Ob) (S : Nat → Prop) (w : World) (R : GRes E → Prop) : Ending → World → Prop
  | .returned v, w' => ∃ π' ρ' h' A' S' g, Behind E π ρ h S w π' ρ' h' A' S' w' ∧ VRel π' ρ' E.yv g v ∧ (∀ id, g.men id = true → h' id ≠ .none) ∧ R (.ok g h' A')
  | .panicked chain, w' => ∃ π' ρ' h' A' S' p v, Behind E π ρ h S w π' ρ' h' A' S' w' ∧ chain = [{ v, recovered := false }] ∧ PRel π' p v ∧ R (.panic p h' A')
  | .outgrown, _ => False

/-- A FUNCTION'S CONTRACT. -/
def Spec (E : Env Pg) (f : FuncId) (args : List G) (h : Nat → Ob) (A : E.α) (R : GRes E → Prop) : Prop :=
  ∀ π ρ S w vs, Rel E π ρ h A S w → VRels π ρ E.yv args vs → CallsIn (MF none) 0 Pg f ⟨vs⟩ w (CallPost E π ρ h S w R)

theorem Spec.mono {f : FuncId} {args : List G} {h : Nat → Ob} {A : E.α} {R R' : GRes E → Prop} (hs : Spec E f args h A R) (hr : ∀ x, R x → R' x) : Spec E f args h A R' :=
  fun π ρ S w vs hR hv => (hs π ρ S w vs hR hv).mono fun e w' k => by
    cases e with
    | returned v => obtain ⟨π', ρ', h', A', S', g, b, v, m, k⟩ := k; exact ⟨π', ρ', h', A', S', g, b, v, m, hr _ k⟩
    | panicked ch => obtain ⟨π', ρ', h', A', S', p, v, b, e, m, k⟩ := k; exact ⟨π', ρ', h', A', S', p, v, b, e, m, hr _ k⟩
    | outgrown => exact k

/-! Pairs of numbers -/
def look : List (Nat × Nat) → Nat → Nat
  | [], _ => 0
  | (i, j) :: L, k => if k = i then j else look L k
def back : List (Nat × Nat) → Nat → Option Nat
  | [], _ => none
  | (i, j) :: L, k => if k = j then some i else back L k
theorem look_of {i j : Nat} : ∀ {L : List (Nat × Nat)}, (L.map (·.1)).Nodup → (i, j) ∈ L → look L i = j
  | [], _, h => by cases h
  | (i', j') :: L, hn, h => by
    simp only [List.map_cons, List.nodup_cons] at hn
    rcases List.mem_cons.1 h with e | h
    · cases e; simp [look]
    have : i ≠ i' := fun e => hn.1 (e ▸ List.mem_map.2 ⟨(i, j), h, rfl⟩)
    simp only [look, if_neg this]; exact look_of hn.2 h
theorem back_of {i j : Nat} : ∀ {L : List (Nat × Nat)}, (L.map (·.2)).Nodup → (i, j) ∈ L → back L j = some i
  | [], _, h => by cases h
  | (i', j') :: L, hn, h => by
    simp only [List.map_cons, List.nodup_cons] at hn
    rcases List.mem_cons.1 h with e | h
    · cases e; simp [back]
    have : j ≠ j' := fun e => hn.1 (e ▸ List.mem_map.2 ⟨(i, j), h, rfl⟩)
    simp only [back, if_neg this]; exact back_of hn.2 h
theorem back_mem {i j : Nat} : ∀ {L : List (Nat × Nat)}, back L j = some i → (i, j) ∈ L
  | [], h => by cases h
  | (i', j') :: L, h => by
    simp only [back] at h
    split at h
    · rename_i e; cases h; subst e; simp
    exact List.mem_cons_of_mem _ (back_mem h)
theorem back_none {j : Nat} : ∀ {L : List (Nat × Nat)}, back L j = none → j ∉ L.map (·.2)
  | [], _ => by simp
  | (i', j') :: L, h => by
    simp only [back] at h
    split at h
    · cases h
    rename_i e
    simp only [List.map_cons, List.mem_cons, not_or]
    exact ⟨e, back_none h⟩

def putsOf (L : List (Nat × Nat)) (h' : Nat → Ob) : List (Nat × Ob) := L.map fun p => (p.2, (h' p.1).ren (look L))

/-- What is asked of the numbers under which a call knows objects. -/
structure Pairs (N : Nat) (L : List (Nat × Nat)) (h hc : Nat → Ob) : Prop where
  n1 : (L.map (·.1)).Nodup
  n2 : (L.map (·.2)).Nodup
  old : ∀ i, hc i ≠ .none → ∃ j, (i, j) ∈ L ∧ i < 100 ∧ h j = (hc i).ren (look L)
  new : ∀ i j, (i, j) ∈ L → hc i = .none → h j = .none ∧ N ≤ j
/-- What is asked of the objects behind it. -/
structure PairsB (L : List (Nat × Nat)) (hc h' : Nat → Ob) : Prop where
  sup : ∀ i, h' i ≠ .none → ∃ j, (i, j) ∈ L
  stay : ∀ i, hc i ≠ .none → h' i ≠ .none

theorem putsH_map {h : Nat → Ob} {f : Nat × Nat → Ob} : ∀ {L : List (Nat × Nat)} {i j : Nat}, (L.map (·.2)).Nodup → (i, j) ∈ L → putsH h (L.map fun p => (p.2, f p)) j = f (i, j)
  | [], _, _, _, h => by cases h
  | (i', j') :: L, i, j, hn, h => by
    simp only [List.map_cons, List.nodup_cons] at hn
    simp only [List.map_cons, putsH]
    rcases List.mem_cons.1 h with e | h
    · cases e
      rw [putsH_not, upd_same]
      intro p hp e
      obtain ⟨q, hq, rfl⟩ := List.mem_map.1 hp
      exact hn.1 (List.mem_map.2 ⟨q, hq, e⟩)
    exact putsH_map hn.2 h

theorem Rel.hand {A : E.α} {h hc : Nat → Ob} {L : List (Nat × Nat)} (R : Rel E π ρ h A S w) {N : Nat} (hp : Pairs N L h hc) : Rel E π (fun i => ρ (look L i)) hc A S w where
  know := R.know
  objs := fun i => by
    by_cases e : hc i = .none
    · rw [e]; trivial
    obtain ⟨j, hj, _, he⟩ := hp.old i e
    have hl := look_of hp.n1 hj
    have := R.objs (look L i)
    rw [hl, he, ← hl] at this
    exact ORel_ren.1 this
  apart := fun i j b hij hi hj => by
    by_cases e : hc i = .none
    · rw [e] at hi; simp [live] at hi
    by_cases e' : hc j = .none
    · rw [e'] at hj; simp [live] at hj
    obtain ⟨i2, h1, _, h2⟩ := hp.old i e
    obtain ⟨j2, h3, _, h4⟩ := hp.old j e'
    have l1 := look_of hp.n1 h1
    have l2 := look_of hp.n1 h3
    rw [← live_ren (θ := look L), l1, ← h2] at hi
    rw [← live_ren (θ := look L), l2, ← h4] at hj
    refine R.apart i2 j2 b (fun e => ?_) hi hj
    have b1 := back_of hp.n2 h1
    have b2 := back_of hp.n2 h3
    rw [e, b2] at b1
    exact hij (by simpa using b1.symm)
  sep := fun i b hi => by
    by_cases e : hc i = .none
    · rw [e] at hi; simp [live] at hi
    obtain ⟨j, hj, _, he⟩ := hp.old i e
    have hl := look_of hp.n1 hj
    rw [← live_ren (θ := look L), hl, ← he] at hi
    exact R.sep j b hi
  res := R.res
  inb := R.inb

def backR (L : List (Nat × Nat)) (ρ ρc : RM) : RM := fun j => match back L j with
  | some i => ρc i
  | none => ρ j
def backH (L : List (Nat × Nat)) (h' : Nat → Ob) : Nat → Ob := fun j => match back L j with
  | some i => (h' i).ren (look L)
  | none => .none

theorem backR_look {L : List (Nat × Nat)} {ρ ρc : RM} (n1 : (L.map (·.1)).Nodup) (n2 : (L.map (·.2)).Nodup) {i j : Nat} (h : (i, j) ∈ L) : backR L ρ ρc (look L i) = ρc i := by
  rw [look_of n1 h, backR, back_of n2 h]

theorem call_back {A A' : E.α} {h hc h' : Nat → Ob} {L : List (Nat × Nat)} {w' : World} {π' : PM} {ρc : RM} {S' : Nat → Prop} (R : Rel E π ρ h A S w) {N : Nat} (hp : Pairs N L h hc) (hb : PairsB L hc h')
    (hB : Behind E π (fun i => ρ (look L i)) hc S w π' ρc h' A' S' w') (hwf : ∀ j id, (h j).men id = true → h id ≠ .none) :
    Rel E π' (backR L ρ ρc) (putsH h (putsOf L h')) A' S' w' ∧ Trans (Own ρ h S) w π (Own (backR L ρ ρc) (putsH h (putsOf L h')) S') w' π' ∧
    (∀ j, h j ≠ .none → RStep (ρ j) (backR L ρ ρc j)) ∧ (∀ j, j < N → RStep (ρ j) (backR L ρ ρc j)) ∧ (∀ id, h id ≠ .none → putsH h (putsOf L h') id ≠ .none) ∧
    (∀ j id, (putsH h (putsOf L h') j).men id = true → putsH h (putsOf L h') id ≠ .none) ∧
    (∀ g v, VRel π' ρc E.yv g v → (∀ id, g.men id = true → h' id ≠ .none) → VRel π' (backR L ρ ρc) E.yv (g.ren (look L)) v ∧ ∀ id, (g.ren (look L)).men id = true → putsH h (putsOf L h') id ≠ .none) := by
  have hput : ∀ i j, (i, j) ∈ L → putsH h (putsOf L h') j = (h' i).ren (look L) := fun i j hm => putsH_map (f := fun p => (h' p.1).ren (look L)) hp.n2 hm
  have hputn : ∀ j, back L j = none → putsH h (putsOf L h') j = h j := fun j hj => putsH_not fun p hp' e => by
    obtain ⟨q, hq, rfl⟩ := List.mem_map.1 hp'
    exact back_none hj (List.mem_map.2 ⟨q, hq, e⟩)
  have hRS : ∀ j, (h j ≠ .none ∨ j < N) → RStep (ρ j) (backR L ρ ρc j) := fun j hj => by
    unfold backR
    cases hbk : back L j with
    | none => exact .inl rfl
    | some i =>
      have hm := back_mem hbk
      by_cases e : hc i = .none
      · obtain ⟨h1, h2⟩ := hp.new i j hm e
        rcases hj with hj | hj
        · exact absurd h1 hj
        omega
      obtain ⟨j2, h1, h2, _⟩ := hp.old i e
      have := hB.step i h2
      rwa [look_of hp.n1 hm] at this
  -- values and objects under the caller's numbers
  have hval : ∀ g v, VRel π' ρc E.yv g v → (∀ id, g.men id = true → h' id ≠ .none) → VRel π' (backR L ρ ρc) E.yv (g.ren (look L)) v := fun g v hv hm => by
    refine VRel_ren.2 (hv.mono (PM.le_refl _) fun id hid => .inl ?_)
    obtain ⟨j, hj⟩ := hb.sup id (hm id hid)
    exact backR_look hp.n1 hp.n2 hj
  have R1 : Rel E π' (backR L ρ ρc) (backH L h') A' S' w' := by
    have hlive : ∀ j b, live (backR L ρ ρc) j (backH L h' j) = some b → ∃ i, (i, j) ∈ L ∧ live ρc i (h' i) = some b := fun j b hj => by
      unfold backH at hj
      cases hbk : back L j with
      | none => rw [hbk] at hj; simp [live] at hj
      | some i =>
        rw [hbk] at hj
        have hm := back_mem hbk
        refine ⟨i, hm, ?_⟩
        have hl := look_of hp.n1 hm
        simp only at hj
        rw [← hl, live_ren] at hj
        have e := backR_look (ρ := ρ) (ρc := ρc) hp.n1 hp.n2 hm
        cases ho : h' i <;> rw [ho] at hj <;> simp only [live, e, reduceCtorEq] at hj ⊢ <;> exact hj
    refine ⟨hB.rel.know, fun j => ?_, fun i j b hij hi hj => ?_, fun i b hi => ?_, hB.rel.res, hB.rel.inb⟩
    · unfold backH
      cases hbk : back L j with
      | none => trivial
      | some i =>
        have hm := back_mem hbk
        have hl := look_of hp.n1 hm
        simp only
        have : ORel π' (backR L ρ ρc) E.yv w' (look L i) ((h' i).ren (look L)) := by
          refine ORel_ren.2 ((hB.rel.objs i).keep (PM.le_refl _) ?_ (fun k hk => .inl ?_) fun _ _ => ⟨rfl, rfl⟩)
          · exact backR_look hp.n1 hp.n2 hm
          obtain ⟨j', hj'⟩ := hb.sup k (hB.wf i k hk)
          exact backR_look hp.n1 hp.n2 hj'
        rwa [hl] at this
    · obtain ⟨i1, m1, l1⟩ := hlive i b hi
      obtain ⟨i2, m2, l2⟩ := hlive j b hj
      refine hB.rel.apart i1 i2 b (fun e => ?_) l1 l2
      subst e
      have e1 := look_of hp.n1 m1
      have e2 := look_of hp.n1 m2
      exact hij (e1.symm.trans e2)
    obtain ⟨i1, _, l1⟩ := hlive i b hi
    exact hB.rel.sep i1 b l1
  have hT : Trans (Own ρ (rhp h (L.map (·.2))) S) w π (Own (backR L ρ ρc) (backH L h') S') w' π' := by
    have hsub : ∀ b, Own (fun i => ρ (look L i)) hc S b → Own ρ (rhp h (L.map (·.2))) S b := fun b hb' => by
      rcases hb' with hb' | ⟨i, hi⟩
      · exact .inl hb'
      by_cases e : hc i = .none
      · rw [e] at hi; simp [live] at hi
      obtain ⟨j, hj, _, he⟩ := hp.old i e
      have hl := look_of hp.n1 hj
      rw [← live_ren (θ := look L), hl, ← he] at hi
      refine .inr ⟨j, ?_⟩
      simp only [rhp]
      rw [if_pos (List.mem_map.2 ⟨(i, j), hj, rfl⟩)]
      exact hi
    have hT1 := hB.trans.weaken hsub
    refine ⟨hT1.size, hT1.os, hT1.tape, hT1.output, hT1.keep, hT1.le, fun b hb' => ?_⟩
    refine hT1.own b ?_
    rcases hb' with hb' | ⟨j, hj⟩
    · exact .inl hb'
    unfold backH at hj
    cases hbk : back L j with
    | none => rw [hbk] at hj; simp [live] at hj
    | some i =>
      rw [hbk] at hj
      have hm := back_mem hbk
      have hl := look_of hp.n1 hm
      simp only at hj
      rw [← hl, live_ren] at hj
      have e := backR_look (ρ := ρ) (ρc := ρc) hp.n1 hp.n2 hm
      refine .inr ⟨i, ?_⟩
      cases ho : h' i <;> rw [ho] at hj <;> simp only [live, e, reduceCtorEq] at hj ⊢ <;> exact hj
  have hfr := Rel.frame (J := L.map (·.2)) R R1 (fun j hj => by
      unfold backH
      cases hbk : back L j with
      | none => rfl
      | some i => exact absurd (List.mem_map.2 ⟨(i, j), back_mem hbk, rfl⟩) hj) hT
    (fun j hj _ => by
      unfold backR
      cases hbk : back L j with
      | none => rfl
      | some i => exact absurd (List.mem_map.2 ⟨(i, j), back_mem hbk, rfl⟩) hj)
    (fun j i _ hm => hRS i (.inl (hwf j i hm)))
  have hheap : (fun j => if j ∈ L.map (·.2) then backH L h' j else h j) = putsH h (putsOf L h') := funext fun j => by
    cases hbk : back L j with
    | none => rw [if_neg (back_none hbk), hputn j hbk]
    | some i =>
      have hm := back_mem hbk
      rw [if_pos (List.mem_map.2 ⟨(i, j), hm, rfl⟩), hput i j hm]
      simp [backH, hbk]
  rw [hheap] at hfr
  have hne : ∀ id, h id ≠ .none → putsH h (putsOf L h') id ≠ .none := fun id hid => by
    cases hbk : back L id with
    | none => rw [hputn id hbk]; exact hid
    | some i =>
      have hm := back_mem hbk
      rw [hput i id hm]
      intro e
      by_cases e' : hc i = .none
      · exact hid (hp.new i id hm e').1
      exact hb.stay i e' (Ob.ren_none.1 e)
  have hmn : ∀ i j, h' i ≠ .none → look L i = j → putsH h (putsOf L h') j ≠ .none := fun i j hi hj => by
    obtain ⟨j', hj'⟩ := hb.sup i hi
    have hl := look_of hp.n1 hj'
    rw [← hj, hl, hput i j' hj']
    exact fun e => hi (Ob.ren_none.1 e)
  refine ⟨hfr.1, hfr.2, fun j hj => hRS j (.inl hj), fun j hj => hRS j (.inr hj), hne, fun j id hm => ?_, fun g v hv hm => ⟨hval g v hv hm, fun id hid => ?_⟩⟩
  · cases hbk : back L j with
    | none => rw [hputn j hbk] at hm; exact hne id (hwf j id hm)
    | some i =>
      rw [hput i j (back_mem hbk)] at hm
      obtain ⟨k, hk, hk2⟩ := Ob.men_ren hm
      exact hmn k id (hB.wf i k hk) hk2
  obtain ⟨k, hk, hk2⟩ := men_ren hid
  exact hmn k id (hm k hk) hk2
end Go.Gh

/- Calls of functions that have a contract. -/
namespace Go.Gh
open Go.RowKit
variable {Pg : Program} {E : Env Pg} {C : Cx E} {σ : Sg E} {a : Act} {w : World} {π : PM} {ρ : RM} {S : Nat → Prop} {r : Option Nat}

def isPtrD : TypeDesc → Bool
  | .pointer _ => true
  | _ => false
def gmethod (Pg : Program) (t : TypeId) (name : String) : Option FuncId :=
  match Pg.info? t, Pg.underlying t with
  | some i, some D => match i.methods.find? (·.name == name) with
    | some m => if m.path.isEmpty then match m.func with
        | some (f, pr) => if pr = isPtrD D then some f else none
        | none => none
      else none
    | none => none
  | _, _ => none

theorem gmethod_ok {t : TypeId} {name : String} {f : FuncId} (h : gmethod Pg t name = some f) (n : Nat) (v : Value) (w : World) : (Go.method (n + 1) t v name).run Pg w = .ok (f, v) w := by
  unfold gmethod at h
  split at h
  · rename_i i D hi hD
    split at h
    · rename_i m hm
      split at h
      · rename_i hp
        split at h
        · rename_i f' pr hf
          split at h
          · rename_i hpr
            cases h
            have hpath : m.path.toList = [] := by
              have : m.path.size = 0 := by simpa [Array.isEmpty] using hp
              exact List.eq_nil_of_length_eq_zero (by simpa using this)
            simp only [Go.method, Sem.run_bind, run_typeInfo w hi, Result.andThen_ok, hm, hpath, Go.follow, Sem.run_pure, hf, Go.receiverAt, run_underlying hD]
            subst hpr
            cases D <;> simp [isPtrD, Go.Place.get]
          cases h
        cases h
      cases h
    cases h
  cases h

/-- Whom a call calls, and with what. -/
def gcallee (Pg : Program) (fr : Nat → G) (cl : Call) : Option (FuncId × List G) :=
  match cl.callee with
  | .value x => match gev fr x with
    | .p (.fn (.func f) a b) => some (f, a.map .p ++ (cl.args.toList.map (gev fr) ++ b.map .p))
    | .fn (.func f) a b => some (f, a ++ (cl.args.toList.map (gev fr) ++ b))
    | _ => none
  | .invoke recv name => match gev fr recv with
    | .p (.iface t v) => match gmethod Pg t name with | some f => some (f, .p v :: cl.args.toList.map (gev fr)) | none => none
    | .iface t v => match gmethod Pg t name with | some f => some (f, v :: cl.args.toList.map (gev fr)) | none => none
    | _ => none
  | .builtin _ => none

theorem VRels.append {y : Value} : ∀ {gs hs : List G} {us vs : List Value}, VRels π ρ y gs us → VRels π ρ y hs vs → VRels π ρ y (gs ++ hs) (us ++ vs)
  | [], hs, us, vs, h, k => by simp only [VRels] at h; subst h; exact k
  | g :: gs, hs, us, vs, h, k => by
    simp only [VRels] at h
    obtain ⟨v, vs', rfl, h1, h2⟩ := h
    simp only [List.cons_append, VRels]
    exact ⟨v, _, rfl, h1, VRels.append h2 k⟩

def Enters (Pg : Program) (f : FuncId) : Prop := ∀ args w, (callFunc f args).run Pg w = .ok (.enter f args) w
theorem Enters.mk {f : FuncId} {fn : Func} {c : Code} (hf : Pg.funcs[f]? = some fn) (hname : (fn.name == "runtime.NumGoroutine") = false) (hb : fn.body = some c) : Enters Pg f := fun args w => by
  have h1 : fn.name ≠ "runtime.NumGoroutine" := by simpa using hname
  simp [callFunc, hf, h1, hb]

theorem call_enter (H : St C σ a w π ρ S) {cl : Call} {f : FuncId} {gs : List G} (hg : gcallee Pg σ.fr cl = some (f, gs)) (hent : Enters Pg f) {dst ty pos after guard} :
    ∃ vs, (execOp a.eval ⟨dst, .call cl, ty, pos, after, guard⟩).run Pg w = .ok (.enter f ⟨vs⟩) w ∧ VRels π ρ E.yv gs vs := by
  obtain ⟨callee, ⟨args⟩, ats⟩ := cl
  have hargs := VRels.map_ev (gev_ok H) args
  unfold gcallee at hg
  split at hg
  · rename_i x hx
    simp only at hx
    subst hx
    have hv := gev_ok H x
    split at hg
    · rename_i f' as bs he
      cases hg
      rw [he] at hv
      simp only [VRel, PRel] at hv
      obtain ⟨us, vs, hv, h1, h2⟩ := hv
      refine ⟨us ++ (args.map a.eval ++ vs), ?_, (VRels.of_PRels h1).append (hargs.append (VRels.of_PRels h2))⟩
      have := hent ⟨us ++ (args.map a.eval ++ vs)⟩ w
      simp [execOp, resolve, hv, Deferred.ofValue, invoke]
      exact this
    · rename_i f' as bs he
      cases hg
      rw [he] at hv
      simp only [VRel] at hv
      obtain ⟨us, vs, hv, h1, h2⟩ := hv
      refine ⟨us ++ (args.map a.eval ++ vs), ?_, h1.append (hargs.append h2)⟩
      have := hent ⟨us ++ (args.map a.eval ++ vs)⟩ w
      simp [execOp, resolve, hv, Deferred.ofValue, invoke]
      exact this
    cases hg
  · rename_i recv name hx
    simp only at hx
    subst hx
    have hv := gev_ok H recv
    split at hg
    · rename_i t v he
      split at hg
      · rename_i f' hm
        cases hg
        rw [he] at hv
        simp only [VRel, PRel] at hv
        obtain ⟨u, hv, h1⟩ := hv
        refine ⟨u :: args.map a.eval, ?_, by simp only [VRels]; exact ⟨u, _, rfl, by simpa only [VRel] using h1, hargs⟩⟩
        have h2 := hent ⟨u :: args.map a.eval⟩ w
        have h3 := fun n => gmethod_ok hm n u w
        simp [execOp, resolve, hv, invoke, callMethod, run_program, Made.depth, h3]
        rw [List.take_of_length_le (by simp)]
        exact h2
      cases hg
    · rename_i t v he
      split at hg
      · rename_i f' hm
        cases hg
        rw [he] at hv
        simp only [VRel] at hv
        obtain ⟨u, hv, h1⟩ := hv
        refine ⟨u :: args.map a.eval, ?_, by simp only [VRels]; exact ⟨u, _, rfl, h1, hargs⟩⟩
        have h2 := hent ⟨u :: args.map a.eval⟩ w
        have h3 := fun n => gmethod_ok hm n u w
        simp [execOp, resolve, hv, invoke, callMethod, run_program, Made.depth, h3]
        rw [List.take_of_length_le (by simp)]
        exact h2
      cases hg
    cases hg
  cases hg

/-- An argument as the callee knows it. -/
def cvt (h : Nat → Ob) (g : G) : Prop × G := match toP h g with
  | some (c, p) => (c, .p p)
  | none => (True, g)
def cvts (h : Nat → Ob) : List G → Prop × List G
  | [] => (True, [])
  | g :: gs => ((cvt h g).1 ∧ (cvts h gs).1, (cvt h g).2 :: (cvts h gs).2)
theorem cvts_ok {A : E.α} {h : Nat → Ob} (R : Rel E π ρ h A S w) : ∀ {gs : List G} {vs : List Value}, VRels π ρ E.yv gs vs → (cvts h gs).1 → VRels π ρ E.yv (cvts h gs).2 vs
  | [], vs, hv, _ => hv
  | g :: gs, vs, hv, hc => by
    simp only [VRels] at hv
    obtain ⟨v, vs', rfl, h1, h2⟩ := hv
    simp only [cvts, VRels]
    refine ⟨v, vs', rfl, ?_, cvts_ok R h2 hc.2⟩
    have hc1 := hc.1
    unfold cvt at hc1 ⊢
    split
    · rename_i c p ht
      rw [ht] at hc1
      simp only [VRel]
      exact toP_ok R ht hc1 h1
    exact h1

theorem St.back (H : St C σ a w π ρ S) {L : List (Nat × Nat)} {hc h' : Nat → Ob} (hp : Pairs C.lim L σ.h hc) (hb : PairsB L hc h') {w' : World} {π' : PM} {ρc : RM} {S' : Nat → Prop} {A' : E.α}
    (hB : Behind E π (fun i => ρ (look L i)) hc S w π' ρc h' A' S' w') : St C { σ with h := putsH σ.h (putsOf L h'), A := A' } a w' π' (backR L ρ ρc) S' := by
  obtain ⟨c1, c2, c3, c4, c5, c6, _⟩ := call_back H.rel hp hb hB H.wfh
  exact H.putObj c1 c2 c3 c4 c5 c6

theorem call_core (H : St C σ a w π ρ S) {cl : Call} {f : FuncId} {gs : List G} (hg : gcallee Pg σ.fr cl = some (f, gs)) (hent : Enters Pg f) {dst : Option Tmp} {ty pos after guard}
    {J : List Nat} {c : Prop} {args : List G} {L : List (Nat × Nat)} (hcv : cvts (rhp σ.h J) gs = (c, G.rens (look L) args)) (hcc : c) {hc : Nat → Ob} (hp : Pairs C.lim L σ.h hc) {R : GRes E → Prop} (spec : Spec E f args hc σ.A R)
    (hok : ∀ g h' A', R (.ok g h' A') → PairsB L hc h') (hpa : ∀ p h' A', R (.panic p h' A') → PairsB L hc h') (hdst : ∀ t, dst = some t → t < C.N) :
    ∃ vs, (execOp a.eval ⟨dst, .call cl, ty, pos, after, guard⟩).run Pg w = .ok (.enter f ⟨vs⟩) w ∧ CallsIn (MF none) 0 Pg f ⟨vs⟩ w fun
      | .returned v, w' => ∃ g h' A', R (.ok g h' A') ∧ Holds C (Sg.put { σ with A := A' } dst (g.ren (look L)) (putsOf L h')) (a.put dst v) w'
      | .panicked chain, w' => ∃ p v h' A' π' ρ' S', chain = [{ v, recovered := false }] ∧ PRel π' p v ∧ R (.panic p h' A') ∧ St C { σ with A := A', h := putsH σ.h (putsOf L h') } a w' π' ρ' S'
      | .outgrown, _ => False := by
  obtain ⟨vs, hrun, hvs⟩ := call_enter H hg hent (dst := dst) (ty := ty) (pos := pos) (after := after) (guard := guard)
  refine ⟨vs, hrun, ?_⟩
  have hvs' := cvts_ok (H.rel.restrict J) hvs (by rw [hcv]; exact hcc)
  rw [hcv] at hvs'
  refine (spec π _ S w vs (H.rel.hand hp) (VRels_ren.1 hvs')).mono fun e w' k => ?_
  cases e with
  | returned v =>
    obtain ⟨π', ρ', h', A', S', g, hB, hv, hm, hR⟩ := k
    have hb := hok g h' A' hR
    have H' := H.back hp hb hB
    obtain ⟨_, _, _, _, _, _, c7⟩ := call_back H.rel hp hb hB H.wfh
    obtain ⟨v1, v2⟩ := c7 g v hv hm
    exact ⟨g, h', A', hR, π', _, S', H'.putReg hdst v1 v2⟩
  | panicked chain =>
    obtain ⟨π', ρ', h', A', S', p, v, hB, he, hv, hR⟩ := k
    exact ⟨p, v, h', A', π', _, S', he, hv, hR, H.back hp (hpa p h' A' hR) hB⟩
  | outgrown => exact k

theorem gcallee_congr {fr fr' : Nat → G} {cl : Call} (h : ∀ x ∈ cl.operands.toList, gev fr x = gev fr' x) : gcallee Pg fr cl = gcallee Pg fr' cl := by
  obtain ⟨callee, args, ats⟩ := cl
  have hargs : args.toList.map (gev fr) = args.toList.map (gev fr') := List.map_congr_left fun x hx => h x (by
    cases callee <;> simp [Call.operands, Array.mem_toList_iff] at hx ⊢ <;> simp [hx])
  unfold gcallee
  cases callee with
  | value x =>
    have hx : gev fr x = gev fr' x := h x (by simp [Call.operands])
    simp only [hx, hargs]
  | invoke x n =>
    have hx : gev fr x = gev fr' x := h x (by simp [Call.operands])
    simp only [hx, hargs]
  | builtin b => rfl

theorem callsIn_any {f : FuncId} {vs : Array Value} {R : Ending → World → Prop} {n : Nat} (h : CallsIn (MF none) 0 Pg f vs w R) : CallsIn (MF r) n Pg f vs w R := ⟨trivial, fun cs _ => h.2 cs (room_wide _)⟩

/-- A CALL THAT HAS ONE OUTCOME. -/
theorem eff_call {ops : Array Oper} {o : Oper} {cl : Call} {f : FuncId} {gs args : List G} {J : List Nat} {c : Prop} {L : List (Nat × Nat)} {hc h' : Nat → Ob} {g : G} (ho : o.op = .call cl) (hw : gwant ops σ.fr o = some true)
    (hg : gcallee Pg σ.fr cl = some (f, gs)) (hent : Enters Pg f) (hcv : cvts (rhp σ.h J) gs = (c, G.rens (look L) args)) (hcc : c) (hp : Pairs C.lim L σ.h hc) (hJ : ∀ p ∈ L, p.2 ∈ J)
    (spec : Spec E f args hc σ.A fun x => x = .ok g h' σ.A) (hb : PairsB L hc h') (hdst : ∀ t, o.dst = some t → t < C.N) : Eff C r ops o σ J (g.ren (look L)) (putsOf L h') := by
  intro σ' hA a w ⟨π, ρ, S, H⟩ K Q hK
  have hwt := gwant_ok H ((gwant_agree hA).trans hw)
  unfold wpO
  rw [hwt]
  simp only [if_true]
  have hg' : gcallee Pg σ'.fr cl = some (f, gs) := by
    rw [gcallee_congr (fr' := σ.fr)]
    · exact hg
    have := agree_ev hA
    rw [ho] at this
    simpa [Op.operands] using this
  have hrh : rhp σ'.h J = rhp σ.h J := funext fun id => by
    simp only [rhp]
    split
    · rename_i hi; exact hA.h id hi
    rfl
  have hp' : Pairs C.lim L σ'.h hc := ⟨hp.n1, hp.n2, fun i hi => by
      obtain ⟨j, h1, h2, h3⟩ := hp.old i hi
      exact ⟨j, h1, h2, (hA.h j (hJ _ h1)).trans h3⟩, fun i j hm hi => by
      obtain ⟨h1, h2⟩ := hp.new i j hm hi
      exact ⟨(hA.h j (hJ _ hm)).trans h1, h2⟩⟩
  obtain ⟨vs, hrun, hcall⟩ := call_core H hg' hent (dst := o.dst) (ty := o.type) (pos := o.pos) (after := o.after) (guard := o.guard) (by rw [hrh]; exact hcv) hcc hp' (by rw [hA.A]; exact spec)
    (fun g2 h2 A2 e => by cases e; exact hb) (fun p h2 A2 e => by cases e) hdst
  refine ⟨fun _ _ => trivial, ?_⟩
  have hsem : Oper.semAt (MF r).round a.eval o = execOp a.eval o := by
    cases r with
    | none => rfl
    | some l => exact Oper.semAt_some l _ _ fun cl hcl => by rw [hcl] at ho; cases ho
  have hoo : execOp a.eval o = execOp a.eval ⟨o.dst, .call cl, o.type, o.pos, o.after, o.guard⟩ := by rw [← ho]
  rw [hsem, hoo, hrun]
  refine ⟨fun h => by simp [Fence.wide] at h, callsIn_any (hcall.mono fun e w' k => ?_)⟩
  cases e with
  | returned v =>
    obtain ⟨g2, h2, A2, e, H'⟩ := k
    cases e
    refine hK _ _ ?_
    have : ({ σ' with A := σ.A } : Sg E) = σ' := by rw [← hA.A]
    rwa [this] at H'
  | panicked chain => obtain ⟨p, v, h2, A2, π', ρ', S', _, _, e, _⟩ := k; cases e
  | outgrown => exact k.elim

/-- A call that has many. -/
theorem effN_call {ops : Array Oper} {o : Oper} {cl : Call} {f : FuncId} {gs args : List G} {J : List Nat} {c : Prop} {L : List (Nat × Nat)} {hc : Nat → Ob} {R : GRes E → Prop} {K : Sg E → Prop} {Q : GE → Sg E → Prop} (ho : o.op = .call cl) (hw : gwant ops σ.fr o = some true)
    (hg : gcallee Pg σ.fr cl = some (f, gs)) (hent : Enters Pg f) (hcv : cvts (rhp σ.h J) gs = (c, G.rens (look L) args)) (hcc : c) (hp : Pairs C.lim L σ.h hc)
    (spec : Spec E f args hc σ.A R) (hok : ∀ g h' A', R (.ok g h' A') → PairsB L hc h' ∧ K (Sg.put { σ with A := A' } o.dst (g.ren (look L)) (putsOf L h')))
    (hpa : ∀ p h' A', R (.panic p h' A') → PairsB L hc h' ∧ Q (.panic p) { σ with A := A', h := putsH σ.h (putsOf L h') }) (hdst : ∀ t, o.dst = some t → t < C.N) : EffN C r ops o σ K Q := by
  intro a w ⟨π, ρ, S, H⟩ K' hK
  have hwt := gwant_ok H hw
  unfold wpO
  rw [hwt]
  simp only [if_true]
  obtain ⟨vs, hrun, hcall⟩ := call_core H hg hent (dst := o.dst) (ty := o.type) (pos := o.pos) (after := o.after) (guard := o.guard) hcv hcc hp spec (fun g h' A' e => (hok g h' A' e).1) (fun p h' A' e => (hpa p h' A' e).1) hdst
  refine ⟨fun _ _ => trivial, ?_⟩
  have hsem : Oper.semAt (MF r).round a.eval o = execOp a.eval o := by
    cases r with
    | none => rfl
    | some l => exact Oper.semAt_some l _ _ fun cl hcl => by rw [hcl] at ho; cases ho
  have hoo : execOp a.eval o = execOp a.eval ⟨o.dst, .call cl, o.type, o.pos, o.after, o.guard⟩ := by rw [← ho]
  rw [hsem, hoo, hrun]
  refine ⟨fun h => by simp [Fence.wide] at h, callsIn_any (hcall.mono fun e w' k => ?_)⟩
  cases e with
  | returned v =>
    obtain ⟨g2, h2, A2, e, H'⟩ := k
    exact hK _ _ _ (hok g2 h2 A2 e).2 H'
  | panicked chain =>
    obtain ⟨p, v, h2, A2, π', ρ', S', e1, e2, e3, H'⟩ := k
    exact ⟨_, p, v, π', ρ', S', e1, e2, H', (hpa p h2 A2 e3).2⟩
  | outgrown => exact k.elim
end Go.Gh

/- Contracts from bodies; what one state may be read as; rules for written-out states. -/
namespace Go.Gh
open Go.RowKit
variable {Pg : Program} {E : Env Pg} {C : Cx E} {σ : Sg E} {a : Act} {w : World} {π : PM} {ρ : RM} {S : Nat → Prop} {r : Option Nat}

/-! What a function returns -/
def gres1 (Pg : Program) (h : Nat → Ob) (fr : Nat → G) : ResultVar → Option (Prop × G)
  | .tmp t => some (True, fr t)
  | .cell x t => match ti Pg t with
    | some i => match gload i h (fr x) with | some (c, out) => some (c, out.val) | none => none
    | none => none
def gresL (Pg : Program) (h : Nat → Ob) (fr : Nat → G) : List ResultVar → Option (Prop × List G)
  | [] => some (True, [])
  | x :: l => match gres1 Pg h fr x with
    | some (c, g) => match gresL Pg h fr l with
      | some (d, gs) => some (c ∧ d, g :: gs)
      | none => none
    | none => none
def tup : List G → G
  | [g] => g
  | gs => mkTuple gs
def gresult (Pg : Program) (h : Nat → Ob) (fr : Nat → G) (l : List ResultVar) : Option (Prop × G) :=
  match gresL Pg h fr l with
  | some (c, gs) => some (c, tup gs)
  | none => none

def resOf (tmps : Array Value) : ResultVar → Sem Value
  | .tmp t => pure (tmps.getD t undef)
  | .cell y t => do loadVar t (← asAddr (tmps.getD y undef))
theorem results_eq (fn : Func) (tmps : Array Value) : results fn tmps = (do let vs ← fn.results.mapM (resOf tmps); pure (if h : vs.size = 1 then vs[0] else .tuple vs)) := rfl

theorem gres1_ok (H : St C σ a w π ρ S) {x : ResultVar} {c : Prop} {g : G} (hg : gres1 Pg σ.h σ.fr x = some (c, g)) (hc : c) :
    (∃ v, (resOf a.tmps x).run Pg w = .ok v w ∧ VRel π ρ E.yv g v) ∧ ∀ id, g.men id = true → σ.h id ≠ .none := by
  cases x with
  | tmp t =>
    simp only [gres1, Option.some.injEq, Prod.mk.injEq] at hg
    obtain ⟨-, rfl⟩ := hg
    exact ⟨⟨_, Sem.run_pure .., H.vals t⟩, H.wfr t⟩
  | cell y t =>
    simp only [gres1] at hg
    split at hg
    · rename_i i hi
      split at hg
      · rename_i c' out ho
        cases hg
        obtain ⟨hp, u, hu, hv⟩ := gload_ok H.rel hi ho hc (H.vals y)
        have hlv := gload_lv (L := fun id => σ.h id ≠ .none) H.wfh ho (H.wfr y)
        refine ⟨⟨u, ?_, hv⟩, fun id hm => (hlv.1 id hm).elim (fun h => h) fun ⟨ob, e⟩ => by rw [hp] at e; cases e⟩
        have : ∃ ad, a.tmps.getD y undef = .pointer (some ad) := by
          have hvy := H.vals y
          cases hg2 : σ.fr y <;> rw [hg2] at hvy ho <;> simp only [gload, reduceCtorEq] at ho <;> simp only [VRel] at hvy
          · obtain ⟨b, o, e, _⟩ := hvy; exact ⟨_, e⟩
          · exact ⟨_, hvy⟩
          rename_i id len off
          split at ho
          · rename_i e sz xs fz hob
            split at ho
            · split at ho
              · cases ho
                have hh := H.rel.objs id
                rw [hob] at hh
                obtain ⟨cs, _, hl, _⟩ := hh
                obtain ⟨b, n, c2, _, e2⟩ := hvy.2 (hl.trans hc.1)
                exact ⟨_, e2⟩
              cases ho
            split at ho
            · cases ho
              have hh := H.rel.objs id
              rw [hob] at hh
              obtain ⟨cs, _, hl, _⟩ := hh
              obtain ⟨b, n, c2, _, e2⟩ := hvy.2 (hl.trans hc)
              exact ⟨_, e2⟩
            cases ho
          cases ho
        obtain ⟨ad, had⟩ := this
        simp only [resOf]
        rw [had] at hu ⊢
        simpa [Instr.loadAt, Instr.sureAddr, asAddr] using hu
      cases hg
    cases hg

theorem gresL_ok (H : St C σ a w π ρ S) : ∀ {l : List ResultVar} {c : Prop} {gs : List G}, gresL Pg σ.h σ.fr l = some (c, gs) → c →
    (∃ vs, (l.mapM (resOf a.tmps)).run Pg w = .ok vs w ∧ VRels π ρ E.yv gs vs) ∧ ∀ id, G.mens id gs = true → σ.h id ≠ .none
  | [], c, gs, hg, _ => by
    simp only [gresL, Option.some.injEq, Prod.mk.injEq] at hg
    obtain ⟨-, rfl⟩ := hg
    exact ⟨⟨[], by simp, by simp only [VRels]⟩, fun id h => by simp [G.mens] at h⟩
  | x :: l, c, gs, hg, hc => by
    simp only [gresL] at hg
    split at hg
    · rename_i c1 g h1
      split at hg
      · rename_i c2 gs' h2
        cases hg
        obtain ⟨⟨v, hv, hr⟩, hm⟩ := gres1_ok H h1 hc.1
        obtain ⟨⟨vs, hvs, hrs⟩, hms⟩ := gresL_ok H h2 hc.2
        refine ⟨⟨v :: vs, ?_, by simp only [VRels]; exact ⟨v, vs, rfl, hr, hrs⟩⟩, fun id h => ?_⟩
        · simp only [List.mapM_cons, Sem.run_bind, hv, Result.andThen_ok, hvs, Sem.run_pure]
        simp only [G.mens, Bool.or_eq_true] at h
        exact h.elim (hm id) (hms id)
      cases hg
    cases hg

theorem gresult_ok (H : St C σ a w π ρ S) {fn : Func} {c : Prop} {g : G} (hg : gresult Pg σ.h σ.fr fn.results.toList = some (c, g)) (hc : c) :
    (∃ v, (results fn a.tmps).run Pg w = .ok v w ∧ VRel π ρ E.yv g v) ∧ ∀ id, g.men id = true → σ.h id ≠ .none := by
  unfold gresult at hg
  split at hg
  · rename_i c' gs hgs
    cases hg
    obtain ⟨⟨vs, hvs, hr⟩, hm⟩ := gresL_ok H hgs hc
    have hrun : (fn.results.mapM (resOf a.tmps)).run Pg w = .ok ⟨vs⟩ w := by
      rw [Array.mapM_eq_mapM_toList]
      simp only [map_eq_pure_bind, Sem.run_bind, hvs, Result.andThen_ok, Sem.run_pure]
    refine ⟨⟨if h : (Array.mk vs).size = 1 then (Array.mk vs)[0] else .tuple ⟨vs⟩, ?_, ?_⟩, fun id h => ?_⟩
    · rw [results_eq]
      simp only [Sem.run_bind, hrun, Result.andThen_ok, Sem.run_pure]
    · have hlen := hr.length
      match gs, vs, hr, hlen with
      | [], vs, hr, hlen =>
        have : vs = [] := List.eq_nil_of_length_eq_zero hlen
        subst this
        exact VRel.mkTuple hr
      | [g], [v], hr, _ =>
        simp only [VRels] at hr
        obtain ⟨v', vs', e, h1, _⟩ := hr
        cases e
        exact h1
      | g :: g' :: gs, v :: v' :: vs, hr, _ =>
        simp only [List.size_toArray, List.length_cons, tup]
        rw [dif_neg (by omega)]
        exact VRel.mkTuple hr
    match gs, hm, h with
    | [], hm, h => exact hm id (men_mkTuple h)
    | [g], hm, h => exact hm id (by simp only [tup] at h; simp [G.mens, h])
    | g :: g' :: gs, hm, h => exact hm id (men_mkTuple h)
  cases hg

/-! From a body to a contract -/
def frOf (args : List G) : Nat → G := fun t => args.getD t .undef
structure Sub (h' h : Nat → Ob) : Prop where
  sub : ∀ id, h' id = h id ∨ h' id = .none
  wf : ∀ j id, (h' j).men id = true → h' id ≠ .none
theorem Rel.sub {A : E.α} {h h' : Nat → Ob} (R : Rel E π ρ h A S w) (hs : Sub h' h) : Rel E π ρ h' A S w := by
  have hl : ∀ i b, live ρ i (h' i) = some b → live ρ i (h i) = some b := fun i b hb => by
    rcases hs.sub i with e | e
    · rwa [e] at hb
    rw [e] at hb; simp [live] at hb
  refine ⟨R.know, fun id => ?_, fun i j b hij hi hj => R.apart i j b hij (hl i b hi) (hl j b hj), fun i b hi => R.sep i b (hl i b hi), R.res, R.inb⟩
  rcases hs.sub id with e | e
  · rw [e]; exact R.objs id
  rw [e]; trivial
theorem Own.sub {h h' : Nat → Ob} (hs : Sub h' h) {b : Nat} (hb : Own ρ h' S b) : Own ρ h S b := by
  rcases hb with hb | ⟨id, hb⟩
  · exact .inl hb
  rcases hs.sub id with e | e
  · rw [e] at hb; exact .inr ⟨id, hb⟩
  rw [e] at hb; simp [live] at hb
theorem Behind.sub {ρ' : RM} {π' : PM} {h h' h'' : Nat → Ob} {A' : E.α} {S' : Nat → Prop} {w' : World} (H : Behind E π ρ h S w π' ρ' h' A' S' w') (hs : Sub h'' h') : Behind E π ρ h S w π' ρ' h'' A' S' w' :=
  ⟨H.rel.sub hs, ⟨H.trans.size, H.trans.os, H.trans.tape, H.trans.output, H.trans.keep, H.trans.le, fun b hb => H.trans.own b (Own.sub hs hb)⟩, H.step, hs.wf⟩

/-- The state at the end: what is returned, and the objects that are handed back. -/
def Fin (Pg : Program) {E : Env Pg} (fn : Func) (R : GRes E → Prop) (σ : Sg E) : Prop := σ.df = [] ∧ ∃ c g, gresult Pg σ.h σ.fr fn.results.toList = some (c, g) ∧ c ∧
  ∃ g' h', (g' = g ∨ ∃ c' v, toP σ.h g = some (c', v) ∧ c' ∧ g' = .p v) ∧ Sub h' σ.h ∧ (∀ id, g'.men id = true → h' id ≠ .none) ∧ R (.ok g' h' σ.A)
def FinQ (Pg : Program) {E : Env Pg} (fn : Func) (R : GRes E → Prop) : GE → Sg E → Prop
  | .normal, σ => Fin Pg fn R σ
  | .ret, σ => Fin Pg fn R σ
  | .panic p, σ => σ.df = [] ∧ ∃ h', Sub h' σ.h ∧ R (.panic p h' σ.A)
  | _, _ => False

theorem St.start {f : FuncId} {args : List G} {h : Nat → Ob} {A : E.α} {N : Nat} {vs : List Value} (hR : Rel E π ρ h A S w) (hv : VRels π ρ E.yv args vs) (hN : args.length ≤ N) (w1 : ∀ g ∈ args, ∀ id, g.men id = true → h id ≠ .none)
    (w2 : ∀ j id, (h j).men id = true → h id ≠ .none) : St (⟨Own ρ h S, w, π, ρ, N, 100, by omega⟩ : Cx E) ⟨frOf args, h, A, []⟩ { tmps := ⟨vs⟩ ++ Array.replicate (N - (Array.mk vs).size) undef, defers := [] } w π ρ S where
  size := by
    have := hv.length
    simp only [Array.size_append, List.size_toArray, Array.size_replicate]
    omega
  vals := fun t => by
    have hl := hv.length
    simp only [frOf]
    by_cases ht : t < args.length
    · obtain ⟨u, hu, hr⟩ := hv.get t args[t] (by simp [ht])
      have e1 : args.getD t .undef = args[t] := by simp [List.getD, ht]
      rw [e1]
      have : (⟨vs⟩ ++ Array.replicate (N - (Array.mk vs).size) undef : Array Value).getD t undef = u := by
        rw [Array.getD_eq_getD_getElem?, Array.getElem?_append_left (by simp; omega)]
        simp [hu]
      rw [this]; exact hr
    have e1 : args.getD t .undef = .undef := by simp [List.getD, List.getElem?_eq_none (Nat.le_of_not_lt ht)]
    rw [e1]
    simp only [VRel]
  defs := rfl
  rel := hR
  trans := Trans.refl _ _ _
  step := fun _ _ => .inl rfl
  wfr := fun t id hm => by
    simp only [frOf] at hm
    by_cases ht : t < args.length
    · have e1 : args.getD t .undef = args[t] := by simp [List.getD, ht]
      rw [e1] at hm
      exact w1 _ (List.getElem_mem ht) id hm
    have e1 : args.getD t .undef = .undef := by simp [List.getD, List.getElem?_eq_none (Nat.le_of_not_lt ht)]
    rw [e1] at hm; simp [G.men] at hm
  wfh := w2
  wfd := fun g hg => by cases hg

theorem spec_mk {f : FuncId} {fn : Func} {c : Code} {args : List G} {h : Nat → Ob} {A : E.α} {R : GRes E → Prop} (hf : Pg.funcs[f]? = some fn) (hb : fn.body = some c) (hN : args.length ≤ fn.ntmps) (w1 : ∀ g ∈ args, ∀ id, g.men id = true → h id ≠ .none)
    (w2 : ∀ j id, (h j).men id = true → h id ≠ .none) (hbody : ∀ C : Cx E, C.N = fn.ntmps → C.lim = 100 → gwp C none c (FinQ Pg fn R) ⟨frOf args, h, A, []⟩) : Spec E f args h A R := by
  intro π ρ S w vs hR hv
  refine callsIn_of_wp hf hb trivial ?_
  have hs := St.start (f := f) hR hv hN w1 w2
  refine wpIn_mono ((hbody ⟨Own ρ h S, w, π, ρ, fn.ntmps, 100, by omega⟩ rfl rfl).run _ _ ⟨π, ρ, S, hs⟩) fun e a' w' k => ?_
  have fin : ∀ σ, Holds (⟨Own ρ h S, w, π, ρ, fn.ntmps, 100, by omega⟩ : Cx E) σ a' w' → Fin Pg fn R σ → a'.defers = [] ∧ ∃ v, (results fn a'.tmps).run Pg w' = .ok v w' ∧ CallPost E π ρ h S w R (.returned v) w' := fun σ ⟨π', ρ', S', H⟩ ⟨hdf, c, g, hg, hc, g', h', hgg, hs, hm', hR⟩ => by
    have hd := H.defs
    rw [hdf] at hd
    obtain ⟨⟨v, hv, hr⟩, hm⟩ := gresult_ok H hg hc
    have hr' : VRel π' ρ' E.yv g' v := by
      rcases hgg with rfl | ⟨c', p, h1, h2, rfl⟩
      · exact hr
      simp only [VRel]; exact toP_ok H.rel h1 h2 hr
    exact ⟨hd, v, hv, π', ρ', h', σ.A, S', g', Behind.sub ⟨H.rel, H.trans, H.step, H.wfh⟩ hs, hr', hm', hR⟩
  cases e with
  | normal => obtain ⟨σ, H, hq⟩ := k; exact fin σ H hq
  | ret => obtain ⟨σ, H, hq⟩ := k; exact fin σ H hq
  | panic ch =>
    obtain ⟨σ, p, v, π', ρ', S', e, hp, H, hdf, h', hs, hq⟩ := k
    have hd := H.defs
    rw [hdf] at hd
    exact ⟨hd, π', ρ', h', σ.A, S', p, v, Behind.sub ⟨H.rel, H.trans, H.step, H.wfh⟩ hs, e, hp, hq⟩
  | exit id => obtain ⟨σ, _, hq⟩ := k; exact hq.elim
  | goto l => obtain ⟨σ, _, hq⟩ := k; exact hq.elim
  | outgrown => exact k.elim

/-! One state read as another -/
def Le (C : Cx E) (σ σ' : Sg E) : Prop := ∀ a w, Holds C σ a w → Holds C σ' a w
theorem Le.trans {σ σ' σ'' : Sg E} (h : Le C σ σ') (k : Le C σ' σ'') : Le C σ σ'' := fun a w H => k a w (h a w H)
theorem gwp_le {c : Code} {Q : GE → Sg E → Prop} {σ' : Sg E} (h : Le C σ σ') (k : gwp C r c Q σ') : gwp C r c Q σ := ⟨fun a w H => k.run a w (h a w H)⟩
theorem gops_le {ops : Array Oper} {l : List Oper} {Q : GE → Sg E → Prop} {σ' : Sg E} (h : Le C σ σ') (k : gops C r ops Q l σ') : gops C r ops Q l σ := ⟨fun a w H => k.run a w (h a w H)⟩

theorem Le.regs {fr : Nat → G} (h : ∀ t, fr t = σ.fr t ∨ fr t = .undef ∨ ∃ c p, toP σ.h (σ.fr t) = some (c, p) ∧ c ∧ fr t = .p p) : Le C σ { σ with fr := fr } := fun a w ⟨π, ρ, S, H⟩ =>
  ⟨π, ρ, S, H.size, fun t => by
    show VRel π ρ E.yv (fr t) _
    rcases h t with e | e | ⟨c, p, h1, h2, e⟩
    · rw [e]; exact H.vals t
    · rw [e]; simp only [VRel]
    · rw [e]; simp only [VRel]; exact toP_ok H.rel h1 h2 (H.vals t), H.defs, H.rel, H.trans, H.step, fun t id hm => by
    replace hm : (fr t).men id = true := hm
    rcases h t with e | e | ⟨c, p, h1, h2, e⟩
    · rw [e] at hm; exact H.wfr t id hm
    · rw [e] at hm; simp [G.men] at hm
    rw [e] at hm; simp [G.men] at hm, H.wfh, H.wfd⟩

/-- Objects that nothing leads to are let go. -/
theorem Le.drop {h : Nat → Ob} (h1 : ∀ id, h id = σ.h id ∨ h id = .none) (h2 : ∀ t id, (σ.fr t).men id = true → h id ≠ .none) (h3 : ∀ j id, (h j).men id = true → h id ≠ .none) (h4 : ∀ g ∈ σ.df, ∀ id, g.men id = true → h id ≠ .none) : Le C σ { σ with h := h } :=
  fun a w ⟨π, ρ, S, H⟩ => by
    have hl : ∀ i b, live ρ i (h i) = some b → live ρ i (σ.h i) = some b := fun i b hb => by
      rcases h1 i with e | e
      · rwa [e] at hb
      rw [e] at hb; simp [live] at hb
    refine ⟨π, ρ, S, H.size, H.vals, H.defs, ⟨H.rel.know, fun id => ?_, fun i j b hij hi hj => H.rel.apart i j b hij (hl i b hi) (hl j b hj), fun i b hi => H.rel.sep i b (hl i b hi), H.rel.res, H.rel.inb⟩,
      ⟨H.trans.size, H.trans.os, H.trans.tape, H.trans.output, H.trans.keep, H.trans.le, fun b hb => H.trans.own b ?_⟩, H.step, h2, h3, h4⟩
    · rcases h1 id with e | e
      · show ORel π ρ E.yv w id (h id)
        rw [e]; exact H.rel.objs id
      show ORel π ρ E.yv w id (h id)
      rw [e]; trivial
    rcases hb with hb | ⟨id, hb⟩
    · exact .inl hb
    exact .inr ⟨id, hl id b hb⟩
end Go.Gh

/- Rules for states that are written out. -/
namespace Go.Gh
open Go.RowKit
variable {Pg : Program} {E : Env Pg} {C : Cx E} {r : Option Nat} {ops : Array Oper} {Q : GE → Sg E → Prop} {rest : List Oper} {l : List (Nat × G)} {m : List (Nat × Ob)} {A : E.α} {df : List GD}

def mkFr : List (Nat × G) → Nat → G
  | [] => fun _ => .undef
  | (t, g) :: l => upd (mkFr l) t g
def mkHp : List (Nat × Ob) → Nat → Ob
  | [] => fun _ => .none
  | (i, o) :: l => upd (mkHp l) i o
/-- A state written out. -/
abbrev sg (l : List (Nat × G)) (m : List (Nat × Ob)) (A : E.α) (df : List GD) : Sg E := ⟨mkFr l, mkHp m, A, df⟩

theorem mkFr_cons (t : Nat) (g : G) (l : List (Nat × G)) (k : Nat) : mkFr ((t, g) :: l) k = if k = t then g else mkFr l k := rfl
theorem mkFr_nil (k : Nat) : mkFr [] k = .undef := rfl
theorem mkHp_cons (t : Nat) (g : Ob) (l : List (Nat × Ob)) (k : Nat) : mkHp ((t, g) :: l) k = if k = t then g else mkHp l k := rfl
theorem mkHp_nil (k : Nat) : mkHp [] k = .none := rfl

theorem gsem_full {σ : Sg E} {o : Oper} {mu : Bool} {d : Nat} {c : Prop} {out : Out} {K : Sg E → Prop} (hw : gwant ops σ.fr o = some true)
    (hg : gsem Pg mu d (gev σ.fr) σ.h o.op = some (c, out)) (hc : c) (hd : σ.h d = .none) (hd2 : C.lim ≤ d) (hdst : ∀ t, o.dst = some t → t < C.N) (hk : K (σ.put o.dst out.val out.put.toList)) : EffN C r ops o σ K Q := by
  intro a w ⟨π, ρ, S, H⟩ K' hK
  have hwt := gwant_ok H hw
  unfold wpO
  rw [hwt]
  simp only [if_true]
  refine ⟨fun _ _ => trivial, ?_⟩
  have hy := gsem_ok (dst := o.dst) (ty := o.type) (pos := o.pos) (after := o.after) (guard := o.guard) H.rel (gev_ok H) hd
    (fun j => by
      cases hm : (σ.h j).men d with
      | false => rfl
      | true => exact absurd hd (H.wfh j d hm))
    (fun x => by
      cases hm : (gev σ.fr x).men d with
      | false => rfl
      | true => exact absurd hd (gev_men H x d hm)) hg hc
  obtain ⟨nx, w', v, hrun, hnx, hp⟩ := hy
  have hlv : Lv (fun id => σ.h id ≠ .none) out := gsem_lv (L := fun id => σ.h id ≠ .none) H.wfh (gev_men H) hg
  have hfin := hK _ _ _ hk (H.after hd hd2 hp hlv hdst)
  have hsem : Oper.semAt (MF r).round a.eval o = execOp a.eval o := by
    cases r with
    | none => rfl
    | some l => exact Oper.semAt_some l _ _ fun cl hcl => by rw [hcl] at hg; simp [gsem] at hg
  rw [hsem]
  have : execOp a.eval o = execOp a.eval ⟨o.dst, o.op, o.type, o.pos, o.after, o.guard⟩ := rfl
  rw [this, hrun]
  rcases hnx with rfl | ⟨rfl, rfl⟩
  · exact hfin
  exact hfin

theorem gwant_plain {fr : Nat → G} {o : Oper} (h : o.guard = none) : gwant ops fr o = some true := by simp [gwant, h]
theorem gwant_at {fr : Nat → G} {o : Oper} {j t : Nat} {b x : Bool} (h : o.guard = some (j, b)) (hj : (ops[j]?).bind (·.dst) = some t) (hx : fr t = .p (.bool x)) : gwant ops fr o = some (x == b) := by
  simp [gwant, h, hj, hx]
theorem gwant_un {fr : Nat → G} {o : Oper} {j t : Nat} {b : Bool} (h : o.guard = some (j, b)) (hj : (ops[j]?).bind (·.dst) = some t) (hx : fr t = .p (.tuple [])) : gwant ops fr o = some false := by
  simp [gwant, h, hj, hx]

section
variable {t : Nat} {op : Op} {ty : TypeId} {pos : String} {af : Array Edge} {mu : Bool} {c : Prop} {g : G} {ob : Ob} {i : Nat} {gd : Option (Nat × Bool)}
/-- A value. -/
theorem go_v (hw : gwant ops (mkFr l) ⟨some t, op, ty, pos, af, gd⟩ = some true) (hg : gsem Pg false 99999 (gev (mkFr l)) (mkHp m) op = some (c, ⟨g, none⟩)) (hd : mkHp m 99999 = .none) (ht : t < C.N) (hc : c) (k : gops C r ops Q rest (sg ((t, g) :: l) m A df)) :
    gops C r ops Q (⟨some t, op, ty, pos, af, gd⟩ :: rest) (sg l m A df) :=
  gops_n (gsem_full hw hg hc hd (by have := C.limOk; omega) (fun t' e => by cases e; exact ht) k)
/-- A new object, or an old one turned; and its value. -/
theorem go_n (d : Nat) (mu : Bool) (hw : gwant ops (mkFr l) ⟨some t, op, ty, pos, af, gd⟩ = some true) (hg : gsem Pg mu d (gev (mkFr l)) (mkHp m) op = some (c, ⟨g, some (i, ob)⟩)) (hd : mkHp m d = .none) (hd2 : C.lim ≤ d) (ht : t < C.N) (hc : c)
    (k : gops C r ops Q rest (sg ((t, g) :: l) ((i, ob) :: m) A df)) : gops C r ops Q (⟨some t, op, ty, pos, af, gd⟩ :: rest) (sg l m A df) :=
  gops_n (gsem_full hw hg hc hd hd2 (fun t' e => by cases e; exact ht) k)
/-- An object is turned. -/
theorem go_s (hw : gwant ops (mkFr l) ⟨none, op, ty, pos, af, gd⟩ = some true) (hg : gsem Pg false 99999 (gev (mkFr l)) (mkHp m) op = some (c, ⟨g, some (i, ob)⟩)) (hd : mkHp m 99999 = .none) (hc : c)
    (k : gops C r ops Q rest (sg l ((i, ob) :: m) A df)) : gops C r ops Q (⟨none, op, ty, pos, af, gd⟩ :: rest) (sg l m A df) :=
  gops_n (gsem_full hw hg hc hd (by have := C.limOk; omega) (fun t' e => by cases e) k)
/-- Left out. -/
theorem go_x (hw : gwant ops (mkFr l) ⟨some t, op, ty, pos, af, gd⟩ = some false) (ht : t < C.N) (k : gops C r ops Q rest (sg ((t, .p (.tuple [])) :: l) m A df)) : gops C r ops Q (⟨some t, op, ty, pos, af, gd⟩ :: rest) (sg l m A df) :=
  gops_eff (eff_skip hw fun t' e => by cases e; exact ht) k
/-- A register's truth. -/
theorem mkFr_again {x : G} (hx : mkFr l t = x) : mkFr ((t, x) :: l) = mkFr l := funext fun k => by
  rw [mkFr_cons]
  split
  · rename_i e; subst e; exact hx.symm
  rfl
theorem go_b (t : Nat) {x : Bool} {lst : List Oper} (hx : mkFr l t = .p (.bool x)) (k1 : x = true → gops C r ops Q lst (sg ((t, .p (.bool true)) :: l) m A df)) (k0 : x = false → gops C r ops Q lst (sg ((t, .p (.bool false)) :: l) m A df)) : gops C r ops Q lst (sg l m A df) := by
  cases x
  · have := k0 rfl
    rwa [sg, mkFr_again hx] at this
  have := k1 rfl
  rwa [sg, mkFr_again hx] at this
end

/-! Code -/
variable {c : Code}
theorem gc_condT {x : Operand} {y z : Code} (hb : gev (mkFr l) x = .p (.bool true)) (k : gwp C r y Q (sg l m A df)) : gwp C r (.cond x y z) Q (sg l m A df) := gwp_cond hb (fun _ => k) fun e => by cases e
theorem gc_condF {x : Operand} {y z : Code} (hb : gev (mkFr l) x = .p (.bool false)) (k : gwp C r z Q (sg l m A df)) : gwp C r (.cond x y z) Q (sg l m A df) := gwp_cond hb (fun e => by cases e) fun _ => k
theorem gc_cond {x : Operand} {y z : Code} {b : Bool} (hb : gev (mkFr l) x = .p (.bool b)) (k1 : b = true → gwp C r y Q (sg l m A df)) (k0 : b = false → gwp C r z Q (sg l m A df)) : gwp C r (.cond x y z) Q (sg l m A df) := gwp_cond hb k1 k0

def num : Nat → List G → List (Nat × G)
  | _, [] => []
  | k, g :: gs => (k, g) :: num (k + 1) gs
theorem mkFr_num : ∀ (gs : List G) (k t : Nat), mkFr (num k gs) t = if t < k then .undef else gs.getD (t - k) .undef
  | [], k, t => by simp [num, mkFr]
  | g :: gs, k, t => by
    simp only [num, mkFr_cons, mkFr_num gs (k + 1) t]
    by_cases h1 : t = k
    · subst h1; simp
    simp only [if_neg h1]
    by_cases h2 : t < k
    · rw [if_pos h2, if_pos (by omega)]
    rw [if_neg h2, if_neg (by omega)]
    have : t - k = (t - (k + 1)) + 1 := by omega
    rw [this]
    simp
theorem frOf_num (gs : List G) : frOf gs = mkFr (num 0 gs) := funext fun t => by rw [mkFr_num]; simp [frOf]

/-- A contract over objects that are written out. -/
theorem spec_of {f : FuncId} {fn : Func} {args : List G} {R : GRes E → Prop} (hf : Pg.funcs[f]? = some fn) (hb : fn.body = some c) (hN : args.length ≤ fn.ntmps) (w1 : ∀ id, G.mens id args = true → mkHp m id ≠ .none)
    (w2 : ∀ j id, (mkHp m j).men id = true → mkHp m id ≠ .none) (hbody : ∀ C : Cx E, C.N = fn.ntmps → C.lim = 100 → gwp C none c (FinQ Pg fn R) (sg (num 0 args) m A [])) : Spec E f args (mkHp m) A R :=
  spec_mk hf hb hN (fun g hg id hm => w1 id (mens_true.2 ⟨g, hg, hm⟩)) w2 fun C hC hL => by
    have := hbody C hC hL
    rw [sg, ← frOf_num] at this
    exact this

/-! Loops, and the end -/
theorem gc_loop (I : Nat → Sg E → Prop) {σ : Sg E} (h₀ : ∃ n₀ σ', Le C σ σ' ∧ I n₀ σ') (round : ∀ n σ, I n σ → gwp C r c (gthen (fun σ' => ∃ n' σ'', n' < n ∧ Le C σ' σ'' ∧ I n' σ'') Q) σ) : gwp C r (.loop c) Q σ := by
  obtain ⟨n₀, h₀⟩ := h₀
  refine gwp_loop (fun n σ => ∃ σ', Le C σ σ' ∧ I n σ') n₀ h₀ fun n σ ⟨σ', hle, hI⟩ => gwp_le hle (gwp_mono (round n σ' hI) fun e σ2 h => ?_)
  cases e with
  | normal => obtain ⟨n', σ3, h1, h2, h3⟩ := h; exact ⟨n', h1, σ3, h2, h3⟩
  | _ => exact h
theorem le_clean (vs : List Nat) {l' : List (Nat × G)} (hl : (vs.map fun v => (v, mkFr l v)) = l') : Le C (sg l m A df : Sg E) (sg l' m A df) := by
  refine Le.regs fun t => ?_
  subst hl
  have : ∀ (vs : List Nat), mkFr (vs.map fun v => (v, mkFr l v)) t = mkFr l t ∨ mkFr (vs.map fun v => (v, mkFr l v)) t = .undef := fun vs => by
    induction vs with
    | nil => exact .inr rfl
    | cons v vs ih =>
      rw [List.map_cons, mkFr_cons]
      split
      · rename_i e; subst e; exact .inl rfl
      exact ih
  rcases this vs with e | e
  · exact .inl e
  exact .inr (.inl e)
theorem sub_nil {h : Nat → Ob} : Sub (mkHp []) h := ⟨fun _ => .inr rfl, fun j id hm => by simp [mkHp, Ob.men] at hm⟩
theorem fin_p {fn : Func} {R : GRes E → Prop} {d : Prop} {g : G} {v : P} (hg : gresult Pg (mkHp m) (mkFr l) fn.results.toList = some (d, g)) (hd : d) {d' : Prop} (hp : toP (mkHp m) g = some (d', v)) (hd' : d') (hR : R (.ok (.p v) (mkHp []) A)) : Fin Pg fn R (sg l m A []) :=
  ⟨rfl, d, g, hg, hd, .p v, mkHp [], .inr ⟨d', v, hp, hd', rfl⟩, sub_nil, fun id hm => by simp [G.men] at hm, hR⟩
theorem fin_panic {fn : Func} {R : GRes E → Prop} {v : P} (hR : R (.panic v (mkHp []) A)) : FinQ Pg fn R (.panic v) (sg l m A []) := ⟨rfl, mkHp [], sub_nil, hR⟩
theorem fin_ret {fn : Func} {R : GRes E → Prop} {σ : Sg E} (h : Fin Pg fn R σ) : FinQ Pg fn R .ret σ := h
theorem fin_normal {fn : Func} {R : GRes E → Prop} {σ : Sg E} (h : Fin Pg fn R σ) : FinQ Pg fn R .normal σ := h
theorem gthen_ret {K : Sg E → Prop} {σ : Sg E} (h : Q .ret σ) : gthen K Q .ret σ := h
theorem gblock_ret {id : Nat} {σ : Sg E} (h : Q .ret σ) : gblock id Q .ret σ := h
theorem gthen_panic {K : Sg E → Prop} {p : P} {σ : Sg E} (h : Q (.panic p) σ) : gthen K Q (.panic p) σ := h
theorem gblock_panic {id : Nat} {p : P} {σ : Sg E} (h : Q (.panic p) σ) : gblock id Q (.panic p) σ := h
theorem gthen_exit {K : Sg E → Prop} {i : Nat} {σ : Sg E} (h : Q (.exit i) σ) : gthen K Q (.exit i) σ := h
theorem gblock_here {id : Nat} {σ : Sg E} (h : Q .normal σ) : gblock id Q (.exit id) σ := by simpa [gblock] using h
theorem gblock_out {id i : Nat} {σ : Sg E} (hi : (i == id) = false) (h : Q (.exit i) σ) : gblock id Q (.exit i) σ := by
  have : i ≠ id := by simpa using hi
  simpa [gblock, this] using h
theorem gblock_normal {id : Nat} {σ : Sg E} (h : Q .normal σ) : gblock id Q .normal σ := h
end Go.Gh

/- Regions in any order: worked out in the text's order; contracts of functions without objects. -/
namespace Go.Gh
open Go.RowKit
variable {Pg : Program} {E : Env Pg} {C : Cx E} {r : Option Nat} {ops : Array Oper} {Q : GE → Sg E → Prop} {l : List (Nat × G)} {m : List (Nat × Ob)} {A : E.α} {df : List GD} {σ σ0 : Sg E}

/-- What is asked of waits and of numbers, as a test. -/
def predsOf (o : Oper) : List Nat := o.after.toList.filterMap fun e => if Region.binds .any e then some e.on else none
def maskOf (tab : List Nat) (o : Oper) : Nat := (predsOf o).foldl (fun a j => a ||| (1 <<< j) ||| tab.getD j 0) 0
def regsOf (l : List Oper) (o : Oper) : List Nat := (o.op.operands.toList.filterMap fun | .tmp t => some t | _ => none) ++
  (match o.guard with
   | some (g, _) => ((l[g]?).bind (·.dst)).toList
   | none => [])
def apartB (l : List Oper) (oi oj : Oper) (di dj : List Nat × List Nat) : Bool :=
  (match oi.dst with | some d => !(regsOf l oj).contains d && oj.dst != some d | none => true) &&
  (match oj.dst with | some d => !(regsOf l oi).contains d | none => true) &&
  di.2.all (fun x => !dj.1.contains x && !dj.2.contains x) && dj.2.all (fun x => !di.1.contains x)
def waitsB (tab : List Nat) : List Oper → Nat → Bool
  | [], _ => true
  | o :: l, j => (predsOf o).all (· < j) && (tab.getD j 0 == maskOf tab o) && waitsB tab l (j + 1)
def cutB (tab : List Nat) (lo n : Nat) (size : Nat) : Bool := (List.range (size - (lo + n))).all fun k => (List.range n).all fun i => (tab.getD (lo + n + k) 0).testBit (lo + i)
def freeB (tab : List Nat) (l : List Oper) (lo : Nat) (ids : List (List Nat × List Nat)) : Bool :=
  (List.range ids.length).all fun j => (List.range j).all fun i => (tab.getD (lo + j) 0).testBit (lo + i) ||
    (match l[lo + i]?, l[lo + j]?, ids[i]?, ids[j]? with
     | some oi, some oj, some di, some dj => apartB l oi oj di dj
     | _, _, _, _ => false)

def Bef (n : Nat) (tab : List Nat) (i j : Nat) : Prop := j < n ∧ (tab.getD j 0).testBit i = true

theorem waitsB_at {tab : List Nat} : ∀ {l : List Oper} {k : Nat}, waitsB tab l k = true → ∀ j o, l[j]? = some o → (∀ e ∈ predsOf o, e < k + j) ∧ tab.getD (k + j) 0 = maskOf tab o
  | [], k, _, j, o, h => by simp at h
  | o' :: l, k, hw, j, o, h => by
    simp only [waitsB, Bool.and_eq_true, List.all_eq_true, decide_eq_true_eq, beq_iff_eq] at hw
    cases j with
    | zero =>
      simp at h; subst h
      exact ⟨fun e he => by have := hw.1.1 e he; omega, by simpa using hw.1.2⟩
    | succ j =>
      simp at h
      have := waitsB_at hw.2 j o h
      rw [show k + (j + 1) = k + 1 + j by omega]
      exact this

theorem maskOf_bit {tab : List Nat} {i : Nat} : ∀ (l : List Nat) (a : Nat), (l.foldl (fun a j => a ||| (1 <<< j) ||| tab.getD j 0) a).testBit i = true → a.testBit i = true ∨ ∃ j ∈ l, i = j ∨ (tab.getD j 0).testBit i = true
  | [], a, h => .inl h
  | j :: l, a, h => by
    rcases maskOf_bit l _ h with h1 | ⟨k, hk, h1⟩
    · simp only [Nat.testBit_or, Bool.or_eq_true] at h1
      rcases h1 with (h1 | h1) | h1
      · exact .inl h1
      · right
        refine ⟨j, by simp, .inl ?_⟩
        simp only [Nat.one_shiftLeft, Nat.testBit_two_pow, decide_eq_true_eq] at h1
        exact h1.symm
      exact .inr ⟨j, by simp, .inr h1⟩
    exact .inr ⟨k, by simp [hk], h1⟩

theorem mem_predsOf {o : Oper} {k : Nat} : k ∈ predsOf o ↔ ∃ e ∈ o.after, Region.binds .any e = true ∧ e.on = k := by
  simp only [predsOf, List.mem_filterMap, Array.mem_toList_iff]
  constructor
  · rintro ⟨e, he, h⟩
    split at h
    · rename_i hb; cases h; exact ⟨e, he, hb, rfl⟩
    cases h
  rintro ⟨e, he, hb, rfl⟩
  exact ⟨e, he, by rw [if_pos hb]⟩

theorem Waits.of {tab : List Nat} (h : waitsB tab ops.toList 0 = true) : Waits ops (Bef ops.size tab) where
  low := fun j o ho e he hb => by
    have := (waitsB_at h j o (by simpa using ho)).1 e.on (mem_predsOf.2 ⟨e, he, hb, rfl⟩)
    omega
  up := fun i j ⟨hj, hb⟩ => by
    have ho : ops[j]? = some ops[j] := Array.getElem?_eq_getElem hj
    refine ⟨ops[j], ho, ?_⟩
    have hw := waitsB_at h j ops[j] (by simp)
    have := hw.2
    rw [Nat.zero_add] at this
    rw [this] at hb
    rcases maskOf_bit _ _ hb with h1 | ⟨k, hk, h1⟩
    · simp at h1
    obtain ⟨e, he, hbe, rfl⟩ := mem_predsOf.1 hk
    have hlt := hw.1 e.on hk
    exact ⟨e, he, hbe, h1.imp Eq.symm fun hx => ⟨by omega, hx⟩⟩

theorem regsOf_eq (o : Oper) : regsOf ops.toList o = o.looksAt ops := by
  simp only [regsOf, Oper.looksAt, Array.getElem?_toList]
  rfl

/-- The region, some of it worked out. -/
structure segK (C : Cx E) (r : Option Nat) (ops : Array Oper) (Q : Exit → Act → World → Prop) (lo : Nat) (σ0 : Sg E) (ids : List (List Nat × List Nat)) (σ : Sg E) : Prop where
  run : (∃ R : Nat → Rec, (∀ m x, ids[m]? = some x → (R (lo + m)).I = x.1 ∧ (R (lo + m)).ps.map (·.1) = x.2) ∧
    (∀ m, m < ids.length → ∃ o, ops[lo + m]? = some o ∧ (R (lo + m)).dst = o.dst ∧ Eff C r ops o (segSt R lo σ0 (fun _ => true) m) (R (lo + m)).I (R (lo + m)).g (R (lo + m)).ps) ∧
    segSt R lo σ0 (fun _ => true) ids.length = σ) → gany C r ops Q lo σ0

variable {QE : Exit → Act → World → Prop} {lo : Nat} {ids : List (List Nat × List Nat)}
theorem segK.start (h : segK C r ops QE lo σ [] σ) : gany C r ops QE lo σ :=
  h.run ⟨fun _ => ⟨none, .undef, [], []⟩, fun m x hx => by simp at hx, fun m hm => by simp at hm, rfl⟩

theorem segSt_congr {R R' : Nat → Rec} {X : Nat → Bool} : ∀ m, (∀ k, k < m → R (lo + k) = R' (lo + k)) → segSt R lo σ X m = segSt R' lo σ X m
  | 0, _ => rfl
  | m + 1, h => by
    simp only [segSt, segSt_congr m fun k hk => h k (by omega), h m (by omega)]

theorem segK.step {o : Oper} {I : List Nat} {g : G} {ps : List (Nat × Ob)} {n : Nat} {pi : List Nat} (hn : ids.length = n) (ho : ops[lo + n]? = some o) (he : Eff C r ops o σ I g ps) (hps : ps.map (·.1) = pi) (h : segK C r ops QE lo σ0 (ids ++ [(I, pi)]) (σ.put o.dst g ps)) :
    segK C r ops QE lo σ0 ids σ := ⟨fun ⟨R, h1, h2, h3⟩ => by
  subst hn
  subst hps
  let R' : Nat → Rec := fun k => if k = lo + ids.length then ⟨o.dst, g, ps, I⟩ else R k
  have hR : ∀ k, k < ids.length → R (lo + k) = R' (lo + k) := fun k hk => by simp only [R']; rw [if_neg (by omega)]
  have hRn : R' (lo + ids.length) = ⟨o.dst, g, ps, I⟩ := by simp only [R', if_true]
  have hst : ∀ m, m ≤ ids.length → segSt R' lo σ0 (fun _ => true) m = segSt R lo σ0 (fun _ => true) m := fun m hm => (segSt_congr m fun k hk => hR k (by omega)).symm
  refine h.run ⟨R', fun m x hx => ?_, fun m hm => ?_, ?_⟩
  · by_cases hm : m < ids.length
    · rw [List.getElem?_append_left hm] at hx
      rw [← hR m hm]
      exact h1 m x hx
    rw [List.getElem?_append_right (by omega)] at hx
    have : m = ids.length := by
      have := (List.getElem?_eq_some_iff.1 hx).1
      simp at this; omega
    subst this
    simp at hx; subst hx
    rw [hRn]
    exact ⟨rfl, rfl⟩
  · by_cases hm' : m < ids.length
    · rw [← hR m hm', hst m (by omega)]
      exact h2 m hm'
    have : m = ids.length := by simp at hm; omega
    subst this
    rw [hRn, hst _ (Nat.le_refl _), h3]
    exact ⟨o, ho, rfl, he⟩
  simp only [List.length_append, List.length_cons, List.length_nil, segSt, if_true, hRn, hst _ (Nat.le_refl _), h3]⟩

theorem segK.stop {n : Nat} (tab : List Nat) (hn : ids.length = n) (hsz : lo + n ≤ ops.size) (hw : waitsB tab ops.toList 0 = true) (hc : cutB tab lo n ops.size = true) (hf : freeB tab ops.toList lo ids = true) (h : gany C r ops QE (lo + n) σ) : segK C r ops QE lo σ0 ids σ :=
  ⟨fun ⟨R, h1, h2, h3⟩ => by
  subst hn
  refine gany_seg (len := ids.length) (R := R) hsz (Waits.of hw) (fun j hj hj2 k hk => ?_) (fun i j hij hj => ?_) h2 (by rw [h3]; exact h)
  · simp only [cutB, List.all_eq_true, List.mem_range] at hc
    have := hc (j - (lo + ids.length)) (by omega) k hk
    rw [show lo + ids.length + (j - (lo + ids.length)) = j by omega] at this
    exact ⟨hj2, this⟩
  simp only [freeB, List.all_eq_true, List.mem_range, Bool.or_eq_true] at hf
  rcases hf j hj i hij with hb | hb
  · exact .inl ⟨by omega, hb⟩
  right
  obtain ⟨oi, ho1, e1, _⟩ := h2 i (by omega)
  obtain ⟨oj, ho2, e2, _⟩ := h2 j hj
  have hi' : ids[i]? = some ids[i] := List.getElem?_eq_getElem (by omega)
  have hj' : ids[j]? = some ids[j] := List.getElem?_eq_getElem hj
  obtain ⟨a1, a2⟩ := h1 i _ hi'
  obtain ⟨b1, b2⟩ := h1 j _ hj'
  have ho1' : ops.toList[lo + i]? = some oi := by simpa using ho1
  have ho2' : ops.toList[lo + j]? = some oj := by simpa using ho2
  rw [ho1', ho2', hi', hj'] at hb
  simp only [apartB, Bool.and_eq_true, regsOf_eq, List.all_eq_true] at hb
  obtain ⟨⟨⟨c1, c2⟩, c3⟩, c4⟩ := hb
  refine ⟨fun o ho t ht e => ?_, fun o ho t ht e => ?_, fun t ht e => ?_, fun p hp hx => ?_, fun p hp hx => ?_, fun p hp q hq e => ?_⟩
  · rw [ho2] at ho; cases ho
    rw [← e1, e] at c1
    simp at c1
    exact c1.1 ht
  · rw [ho1] at ho; cases ho
    rw [← e2, e] at c2
    simp at c2
    exact c2 ht
  · rw [← e1, ht] at c1
    rw [← e2, e] at c1
    simp at c1
  · have := c3 p.1 (by rw [← a2]; exact List.mem_map.2 ⟨p, hp, rfl⟩)
    rw [b1] at hx
    simp at this
    exact this.1 hx
  · have := c4 p.1 (by rw [← b2]; exact List.mem_map.2 ⟨p, hp, rfl⟩)
    rw [a1] at hx
    simp at this
    exact this hx
  have := c3 p.1 (by rw [← a2]; exact List.mem_map.2 ⟨p, hp, rfl⟩)
  simp at this
  refine this.2 ?_
  rw [← b2, e]
  exact List.mem_map.2 ⟨q, hq, rfl⟩⟩

theorem gany_step {o : Oper} (tab : List Nat) {Q : GE → Sg E → Prop} (ho : ops[lo]? = some o) (hw : waitsB tab ops.toList 0 = true) (hc : cutB tab lo 1 ops.size = true) (he : EffN C r ops o σ (gany C r ops (GPost C Q) (lo + 1)) Q) : gany C r ops (GPost C Q) lo σ :=
  gany_one ho (Waits.of hw) (fun j hj hj2 => by
    simp only [cutB, List.all_eq_true, List.mem_range] at hc
    have := hc (j - (lo + 1)) (by omega) 0 (by omega)
    rw [show lo + 1 + (j - (lo + 1)) = j by omega] at this
    exact ⟨hj2, this⟩) he

/-! Functions without objects -/
inductive PRes where
  | ok (v : P)
  | panic (v : P)
def PRes.at (E : Env Pg) (m : List (Nat × Ob)) (A : E.α) : PRes → GRes E
  | .ok v => GRes.ok (G.p v) (mkHp m) A
  | .panic v => GRes.panic v (mkHp m) A
/-- What a function yields that knows no objects. -/
def PSpec (Pg : Program) (f : FuncId) (args : List P) (x : PRes) : Prop := ∀ (E : Env Pg) (A : E.α), Spec E f (args.map .p) (mkHp []) A fun y => y = PRes.at E [] A x

theorem rens_p (θ : Nat → Nat) : ∀ (ps : List P), G.rens θ (ps.map .p) = ps.map .p
  | [] => rfl
  | p :: ps => by simp only [List.map_cons, G.rens, G.ren, rens_p θ ps]
theorem pairs_nil {N : Nat} {h : Nat → Ob} : Pairs N [] h (mkHp []) := ⟨List.nodup_nil, List.nodup_nil, fun i hi => absurd rfl hi, fun i j hm => by cases hm⟩
theorem pairsB_nil : PairsB [] (mkHp []) (mkHp []) := ⟨fun i hi => absurd rfl hi, fun i hi => absurd rfl hi⟩

theorem eff_pcall {o : Oper} {cl : Call} {f : FuncId} {gs : List G} {J : List Nat} {c : Prop} {args : List P} {v : P} (ho : o.op = .call cl) (hw : gwant ops σ.fr o = some true) (hg : gcallee Pg σ.fr cl = some (f, gs)) (hent : Enters Pg f)
    (hcv : cvts (rhp σ.h J) gs = (c, args.map .p)) (hcc : c) (spec : PSpec Pg f args (.ok v)) (hdst : ∀ t, o.dst = some t → t < C.N) : Eff C r ops o σ J (.p v) [] := by
  have := eff_call (C := C) (r := r) (ops := ops) (o := o) (cl := cl) (g := .p v) (h' := mkHp []) ho hw hg hent (hcv.trans (by rw [rens_p])) hcc pairs_nil (fun p hp => by cases hp) (spec E σ.A) pairsB_nil hdst
  simpa [G.ren, putsOf] using this
/-- One that may panic. -/
theorem effN_pcall {o : Oper} {cl : Call} {f : FuncId} {gs : List G} {J : List Nat} {c : Prop} {args : List P} {x : PRes} {K : Sg E → Prop} {Q : GE → Sg E → Prop} (ho : o.op = .call cl) (hw : gwant ops σ.fr o = some true) (hg : gcallee Pg σ.fr cl = some (f, gs)) (hent : Enters Pg f)
    (hcv : cvts (rhp σ.h J) gs = (c, args.map .p)) (hcc : c) (spec : PSpec Pg f args x) (hdst : ∀ t, o.dst = some t → t < C.N) (hok : ∀ v, x = .ok v → K (σ.put o.dst (.p v) [])) (hpa : ∀ v, x = .panic v → Q (.panic v) σ) : EffN C r ops o σ K Q := by
  refine effN_call (L := []) (hc := mkHp []) ho hw hg hent (hcv.trans (by rw [rens_p])) hcc pairs_nil (spec E σ.A) (fun g h' A' e => ?_) (fun p h' A' e => ?_) hdst
  · cases x with
    | ok v => cases e; exact ⟨pairsB_nil, hok v rfl⟩
    | panic v => cases e
  cases x with
  | ok v => cases e
  | panic v => cases e; exact ⟨pairsB_nil, hpa _ rfl⟩

theorem pspec_of {f : FuncId} {fn : Func} {c : Code} {args : List P} {x : PRes} (hf : Pg.funcs[f]? = some fn) (hb : fn.body = some c) (hN : Nat.ble args.length fn.ntmps = true)
    (hbody : ∀ (E : Env Pg) (A : E.α) (C : Cx E), C.N = fn.ntmps → C.lim = 100 → gwp C none c (FinQ Pg fn fun y => y = PRes.at E [] A x) (sg (num 0 (args.map .p)) [] A [])) : PSpec Pg f args x := fun E A =>
  spec_of hf hb (by simpa using Nat.le_of_ble_eq_true hN) (fun id h => by
    obtain ⟨g, hg, hm⟩ := mens_true.1 h
    obtain ⟨p, _, rfl⟩ := List.mem_map.1 hg
    simp [G.men] at hm) (fun j id h => by simp [mkHp, Ob.men] at h) fun C hC hL => hbody E A C hC hL

/-! Lists of values nobody turns -/
theorem allP_p : ∀ (ps : List P), allP (ps.map .p) = some ps
  | [] => rfl
  | p :: ps => by simp only [List.map_cons, allP, allP_p ps]
theorem allOne_p : ∀ (ps : List P), allOne (ps.map .p) = ps.all P.one
  | [] => rfl
  | p :: ps => by simp only [List.map_cons, allOne, G.one, allOne_p ps, List.all_cons]
theorem goods_p {h : Nat → Ob} : ∀ (ps : List P), goods h (ps.map .p) = True
  | [] => rfl
  | p :: ps => by simp only [List.map_cons, goods, good, goods_p ps, and_true]
theorem idls_p : ∀ (ps : List P), G.idls (ps.map .p) = []
  | [] => rfl
  | p :: ps => by simp only [List.map_cons, G.idls, G.idl, idls_p ps, List.append_nil]
theorem toPs_p {h : Nat → Ob} : ∀ (ps : List P), toPs h (ps.map .p) = some (True, ps)
  | [] => rfl
  | p :: ps => by simp only [List.map_cons, toPs, toP, toPs_p ps, and_true]
theorem all_int {k : IntKind} (l : List Int) : (l.map (P.int k)).all P.one = true := by
  induction l with
  | nil => rfl
  | cons x l ih => simp only [List.map_cons, List.all_cons, P.one, ih, Bool.and_true]
theorem take_all {α : Type} {l : List α} {n : Nat} (h : l.length = n) : l.take n = l := by rw [← h]; exact List.take_length
theorem sgE {l l' : List (Nat × G)} {m m' : List (Nat × Ob)} (h1 : l = l') (h2 : m = m') : (sg l m A df : Sg E) = sg l' m' A df := by rw [h1, h2]
theorem getE {α : Type} {l : List α} {k : Nat} (h : (k : Int) < (l.length : Int)) : ∃ x, l[k]? = some x := ⟨l[k]'(by omega), List.getElem?_eq_getElem _⟩
end Go.Gh

/- Cleaning: registers that are read no more, and objects that nothing leads to. -/
namespace Go.Gh
open Go.RowKit
variable {Pg : Program} {E : Env Pg} {C : Cx E} {r : Option Nat} {ops : Array Oper} {Q : GE → Sg E → Prop} {l : List (Nat × G)} {m : List (Nat × Ob)} {A : E.α} {df : List GD} {σ σ0 : Sg E} {c : Code}

def obIdl : Ob → List Nat
  | .cells cs _ => G.idls cs
  | _ => []
def gdIdl : GD → List Nat
  | .call _ args caps => G.idls args ++ G.idls caps
  | .mark i => [i]
def frIds : List (Nat × G) → List Nat
  | [] => []
  | p :: l => p.2.idl ++ frIds l
def dfIds : List GD → List Nat
  | [] => []
  | d :: l => gdIdl d ++ dfIds l
def hpIds (m : List (Nat × Ob)) : List Nat → List Nat
  | [] => []
  | i :: I => obIdl (mkHp m i) ++ hpIds m I
def dedupL : List Nat → List Nat
  | [] => []
  | i :: I => i :: (dedupL I).filter (· ≠ i)
def pickL (m : List (Nat × Ob)) : List Nat → List (Nat × Ob)
  | [] => []
  | i :: I => (i, mkHp m i) :: pickL m I
def restrictL (I : List Nat) (m : List (Nat × Ob)) : List (Nat × Ob) := pickL m (dedupL I)
def subB (J I : List Nat) : Bool := J.all fun j => decide (j ∈ I)

mutual
theorem men_idl {id : Nat} : ∀ {g : G}, g.men id = true → id ∈ g.idl
  | .p _, h => by simp [G.men] at h
  | .nils, h => by simp [G.men] at h
  | .abs, h => by simp [G.men] at h
  | .undef, h => by simp [G.men] at h
  | .agg cs, h => by simp only [G.men, G.idl] at h ⊢; exact mens_idl h
  | .tuple cs, h => by simp only [G.men, G.idl] at h ⊢; exact mens_idl h
  | .ptr cs, h => by simp only [G.men, G.idl] at h ⊢; exact mens_idl h
  | .iface t x, h => by simp only [G.men, G.idl] at h ⊢; exact men_idl h
  | .fn f a b, h => by
    simp only [G.men, G.idl, Bool.or_eq_true, List.mem_append] at h ⊢
    exact h.imp mens_idl mens_idl
  | .ref i o, h => by simp only [G.men, G.idl, beq_iff_eq] at h ⊢; simp [h]
  | .own i o, h => by simp only [G.men, G.idl, beq_iff_eq] at h ⊢; simp [h]
  | .aref i n o, h => by simp only [G.men, G.idl, beq_iff_eq] at h ⊢; simp [h]
  | .fsl i n o, h => by simp only [G.men, G.idl, beq_iff_eq] at h ⊢; simp [h]
  | .map i, h => by simp only [G.men, G.idl, beq_iff_eq] at h ⊢; simp [h]
theorem mens_idl {id : Nat} : ∀ {gs : List G}, G.mens id gs = true → id ∈ G.idls gs
  | [], h => by simp [G.mens] at h
  | g :: gs, h => by
    simp only [G.mens, G.idls, Bool.or_eq_true, List.mem_append] at h ⊢
    exact h.imp men_idl mens_idl
end
theorem obmen_idl {id : Nat} {ob : Ob} (h : ob.men id = true) : id ∈ obIdl ob := by
  cases ob <;> simp only [Ob.men, Bool.false_eq_true] at h
  exact mens_idl h
theorem gdmen_idl {id : Nat} {d : GD} (h : d.men id = true) : id ∈ gdIdl d := by
  cases d with
  | call f args caps =>
    simp only [GD.men, Bool.or_eq_true, gdIdl, List.mem_append] at h ⊢
    exact h.imp mens_idl mens_idl
  | mark i => simp only [GD.men, beq_iff_eq] at h; simp [gdIdl, h]
theorem fr_ids {id t : Nat} : ∀ {l : List (Nat × G)}, (mkFr l t).men id = true → id ∈ frIds l
  | [], h => by simp [mkFr, G.men] at h
  | (k, g) :: l, h => by
    rw [mkFr_cons] at h
    simp only [frIds, List.mem_append]
    split at h
    · exact .inl (men_idl h)
    exact .inr (fr_ids h)
theorem df_ids {id : Nat} : ∀ {df : List GD} {d : GD}, d ∈ df → d.men id = true → id ∈ dfIds df
  | [], d, h, _ => by cases h
  | d' :: df, d, h, hm => by
    simp only [dfIds, List.mem_append]
    rcases List.mem_cons.1 h with rfl | h
    · exact .inl (gdmen_idl hm)
    exact .inr (df_ids h hm)
theorem hp_ids {id i : Nat} : ∀ {I : List Nat}, i ∈ I → (mkHp m i).men id = true → id ∈ hpIds m I
  | [], h, _ => by cases h
  | j :: I, h, hm => by
    simp only [hpIds, List.mem_append]
    rcases List.mem_cons.1 h with rfl | h
    · exact .inl (obmen_idl hm)
    exact .inr (hp_ids h hm)
theorem mem_dedupL {i : Nat} : ∀ {I : List Nat}, i ∈ dedupL I ↔ i ∈ I
  | [] => Iff.rfl
  | j :: I => by
    simp only [dedupL, List.mem_cons, List.mem_filter, mem_dedupL (I := I), decide_eq_true_eq]
    by_cases e : i = j
    · simp [e]
    simp [e]
theorem pick_at {id : Nat} : ∀ {I : List Nat}, mkHp (pickL m I) id = if id ∈ I then mkHp m id else .none
  | [] => by simp [pickL, mkHp]
  | i :: I => by
    rw [pickL, mkHp_cons, pick_at (I := I)]
    by_cases e : id = i
    · subst e; simp
    simp [e]
theorem restrict_at {id : Nat} {m : List (Nat × Ob)} {I : List Nat} : mkHp (restrictL I m) id = if id ∈ I then mkHp m id else .none := by
  rw [restrictL, pick_at]
  simp only [mem_dedupL]

theorem le_clean2 (vs : List Nat) {l' : List (Nat × G)} {m' : List (Nat × Ob)} {I : List Nat} (hl : (vs.map fun v => (v, mkFr l v)) = l') (hm : restrictL I m = m') (h1 : subB (frIds l') I = true) (h2 : subB (dfIds df) I = true) (h3 : subB (hpIds m I) I = true) :
    Le C (sg l m A df : Sg E) (sg l' m' A df) := by
  refine Le.trans (le_clean vs hl) ?_
  simp only [subB, List.all_eq_true, decide_eq_true_eq] at h1 h2 h3
  subst hm
  intro a w hH
  refine Le.drop (σ := (sg l' m A df : Sg E)) (h := mkHp (restrictL I m)) (fun id => ?_) (fun t id hx => ?_) (fun j id hx => ?_) (fun g hg id hx => ?_) a w hH
  all_goals obtain ⟨π, ρ, S, H⟩ := hH
  · rw [restrict_at]
    split
    · exact .inl rfl
    exact .inr rfl
  · rw [restrict_at, if_pos (h1 id (fr_ids hx))]
    exact H.wfr t id hx
  · rw [restrict_at] at hx ⊢
    split at hx
    · rename_i hj
      rw [if_pos (h3 id (hp_ids hj hx))]
      exact H.wfh j id hx
    simp [Ob.men] at hx
  rw [restrict_at, if_pos (h2 id (df_ids hg hx))]
  exact H.wfd g hg id hx
/-- What registers, deferred calls, and what they lead to, lead to. -/
def reach (l : List (Nat × G)) (m : List (Nat × Ob)) (df : List GD) : List Nat := frIds l ++ dfIds df ++ (hpIds m (frIds l ++ dfIds df) ++ hpIds m (hpIds m (frIds l ++ dfIds df)))
theorem gc_clean2 (vs : List Nat) {l' : List (Nat × G)} {m' : List (Nat × Ob)} {I : List Nat} (hl : (vs.map fun v => (v, mkFr l v)) = l') (hm : restrictL I m = m') (h1 : subB (frIds l') I = true) (h2 : subB (dfIds df) I = true) (h3 : subB (hpIds m I) I = true)
    (k : gwp C r c Q (sg l' m' A df)) : gwp C r c Q (sg l m A df) := gwp_le (le_clean2 vs hl hm h1 h2 h3) k
theorem tup_nil : tup [] = .p (.tuple []) := rfl
theorem tup_one (g : G) : tup [g] = g := rfl
theorem tup_two (g g' : G) (gs : List G) : tup (g :: g' :: gs) = mkTuple (g :: g' :: gs) := rfl
end Go.Gh
