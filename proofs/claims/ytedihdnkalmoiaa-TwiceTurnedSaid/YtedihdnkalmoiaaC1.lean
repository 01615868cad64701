/- The statement TwiceTurnedSaid: the call returns true for every input, and its arguments read as before; no condition. -/
import Derived.Test.YtedihdnkalmoiaaB4
import Derived.Below
import Derived.ChangeArms
import Derived.DataReads
import Derived.WideShapes
import Derived.Carry
import Derived.OpenShut
import Derived.RowKit3
import Derived.ProofKit
import Derived.ChangeCalls
import Derived.Test.YtedihdnkalmoiaaRows
set_option linter.unusedVariables false
set_option linter.unusedSimpArgs false
/- From a contract over plain values to the call itself: what it hands back, and that nothing that was there has turned. -/
namespace Go.Gh
open Go.RowKit
variable {Pg : Program}

/-- Where no code waits for a yield. -/
def Env.base (Pg : Program) : Env Pg where
  α := Unit
  yv := .nilFunc
  one := rfl
  Res := fun _ S _ _ => ∀ b, ¬ S b
  Can := fun _ _ => False
  Y := fun _ _ _ _ => False
  stable := fun h _ _ _ _ _ => h
  ycall := fun h => h.elim
/-- What a world's cells hold. -/
def cellsP (w : World) : PM := fun b o => w.cell? ⟨b, o, none⟩
theorem base_rel (w : World) : Rel (Env.base Pg) (cellsP w) (fun _ => ⟨0, .nilFunc, 0⟩) (mkHp []) () (fun _ => False) w where
  know := fun _ _ _ h => h
  objs := fun id => by simp [ORel, mkHp_nil]
  apart := fun i j b hij h => by simp [live, mkHp_nil] at h
  sep := fun i b h => by simp [live, mkHp_nil] at h
  res := fun b h => h
  inb := fun b h => h.elim
theorem calls_of {f : FuncId} {ps : List P} {v : P} {vs : List Value} {w : World} (hs : PSpec Pg f ps (.ok v)) (hv : PRels (cellsP w) ps vs) :
    Calls Pg f ⟨vs⟩ w fun e w' => ∃ u π', e = .returned u ∧ PRel π' v u ∧ Below w.heap.size w w' := by
  have h := hs (Env.base Pg) () (cellsP w) (fun _ => ⟨0, .nilFunc, 0⟩) (fun _ => False) w vs (base_rel w) (VRels.of_PRels hv)
  refine (callsIn_wide.1 h).mono fun e w' k => ?_
  have key : ∀ {π' ρ' h' A' S'}, Behind (Env.base Pg) (cellsP w) (fun _ => ⟨0, .nilFunc, 0⟩) (mkHp []) (fun _ => False) w π' ρ' h' A' S' w' → Below w.heap.size w w' := fun b => by
    have t := b.trans
    refine ⟨t.os, t.tape, t.output, t.size, fun b hb => (t.keep b hb fun ho => ?_).1⟩
    rcases ho with ho | ⟨id, ho⟩
    · exact ho
    · simp [live, mkHp_nil] at ho
  cases e with
  | returned u =>
    obtain ⟨π', ρ', h', A', S', g, b, hvr, _, hR⟩ := k
    simp only [PRes.at, GRes.ok.injEq] at hR
    obtain ⟨rfl, _, _⟩ := hR
    exact ⟨u, π', rfl, by simpa only [VRel] using hvr, key b⟩
  | panicked chain =>
    obtain ⟨π', ρ', h', A', S', p, v', b, _, _, hR⟩ := k
    simp [PRes.at] at hR
  | outgrown => exact k.elim
end Go.Gh

/- What a call's arguments hold, read as data, are ghost values of the shape that their types have. -/
namespace Go.Gh
open Go.RowKit

/-- The shape of one cell. -/
inductive S where
  | bool | int (k : IntKind) | str
  | list (es : List S) (agg : Bool)

/-- The shape of a type's cells, as far as we read them: slices of slices are left out. -/
def shpF (sh : TypeId → Option (List S)) (P : Program) : List Field → Nat → Option (List S)
  | [], _ => some []
  | f :: fs, o => (sh f.type).bind fun a => if f.offset = o ∧ P.cellsOf f.type = a.length then (shpF sh P fs (o + a.length)).map (a ++ ·) else none
def shp (P : Program) : Nat → Bool → TypeId → Option (List S)
  | 0, _, _ => none
  | n + 1, deep, t => match P.underlying t with
    | some .bool => some [.bool]
    | some (.int k) => some [.int k]
    | some .string => some [.str]
    | some (.slice e) => if deep then none else (shp P n true e).bind fun es => if P.cellsOf e = es.length then (match P.underlying e with
      | some (.struct _) => some [.list es true]
      | some (.array _ _) => some [.list es true]
      | _ => if es.length = 1 then some [.list es false] else none) else none
    | some (.struct fs) => shpF (shp P n deep) P fs.toList 0
    | some (.array m e) => (shp P n deep e).bind fun es => if P.cellsOf e = es.length then some (List.replicate m es).flatten else none
    | _ => none

mutual
def Fits : S → P → Prop
  | .bool, x => ∃ b, x = .bool b
  | .int k, x => ∃ n, x = .int k n ∧ (Lit.int k n).wf = true
  | .str, x => ∃ s, x = .str s ∧ s.length ≤ maxLen
  | .list es agg, x => ∃ xs, x = .list xs ∧ xs.length ≤ maxLen ∧ ∀ y ∈ xs, ∃ cs, Fitss es cs ∧ (agg = true → y = .agg cs) ∧ (agg = false → cs = [y])
def Fitss : List S → List P → Prop
  | [], xs => xs = []
  | e :: es, xs => ∃ y ys, xs = y :: ys ∧ Fits e y ∧ Fitss es ys
end
theorem Fits.one {s : S} {x : P} (h : Fits s x) : x.one = true := by
  cases s <;> simp only [Fits] at h
  · obtain ⟨_, rfl⟩ := h; rfl
  · obtain ⟨_, rfl, _⟩ := h; rfl
  · obtain ⟨_, rfl, _⟩ := h; rfl
  · obtain ⟨_, rfl, _⟩ := h; rfl
theorem Fitss.length : ∀ {ss : List S} {xs : List P}, Fitss ss xs → xs.length = ss.length
  | [], xs, h => by simp only [Fitss] at h; subst h; rfl
  | s :: ss, xs, h => by
    simp only [Fitss] at h
    obtain ⟨y, ys, rfl, _, k⟩ := h
    simp [Fitss.length k]
theorem Fitss.one : ∀ {ss : List S} {xs : List P}, Fitss ss xs → ∀ x ∈ xs, x.one = true
  | [], xs, h, x, hx => by simp only [Fitss] at h; subst h; simp at hx
  | s :: ss, xs, h, x, hx => by
    simp only [Fitss] at h
    obtain ⟨y, ys, rfl, k1, k2⟩ := h
    rcases List.mem_cons.1 hx with rfl | hx
    · exact k1.one
    · exact Fitss.one k2 x hx
theorem Fitss.append : ∀ {ss ts : List S} {xs ys : List P}, Fitss ss xs → Fitss ts ys → Fitss (ss ++ ts) (xs ++ ys)
  | [], ts, xs, ys, h, k => by simp only [Fitss] at h; subst h; simpa using k
  | s :: ss, ts, xs, ys, h, k => by
    simp only [Fitss] at h
    obtain ⟨y, zs, rfl, k1, k2⟩ := h
    simp only [List.cons_append, Fitss]
    exact ⟨y, _, rfl, k1, Fitss.append k2 k⟩
theorem PRels.append' {π : PM} {xs ys : List P} {us vs : List Value} (h : PRels π xs us) (k : PRels π ys vs) : PRels π (xs ++ ys) (us ++ vs) := by
  induction xs generalizing us with
  | nil => simp only [PRels] at h; subst h; simpa using k
  | cons x xs ih =>
    simp only [PRels] at h
    obtain ⟨v, ws, rfl, h1, h2⟩ := h
    simp only [List.cons_append, PRels]
    exact ⟨v, _, rfl, h1, ih h2⟩
/-- No cell leads into a part of an interface value. -/
def Spots (cs : List Value) : Prop := ∀ a len cap, Value.slice (some a) len cap ∈ cs → a.spot = none

variable {H : Type} {enc : TypeId × Value → H} {Pg : Program} {w : World} {base : Nat} {spare : Nat → Bool} {held : Bool}
theorem mapM_get {α β : Type} {f : α → Option β} : ∀ {l : List α} {r : List β}, l.mapM f = some r → r.length = l.length ∧ ∀ (i : Nat) x, l[i]? = some x → f x = r[i]?
  | l, r, h => ⟨mapM_some_length h, fun i x hx => mapM_some_get h i x hx⟩
theorem add_none (b o j : Nat) : (⟨b, o, none⟩ : Addr).add j = ⟨b, o + j, none⟩ := by simp [Addr.add]
/-- A row of cells, relation by relation. -/
theorem row_of {a : Addr} {n : Nat} {cs : List Value} {ps : List P} (hs : a.spot = none) (h : w.cells? base a n = some cs) (hr : PRels (cellsP w) ps cs) (h1 : ∀ x ∈ ps, x.one = true) : PRow (cellsP w) a.block a.off ps := by
  obtain ⟨_, hl, hc⟩ := World.cells?_some h
  refine PRow.mk fun j c hj => ?_
  obtain ⟨u, hu, hk⟩ := hr.get j c hj
  refine ⟨u, ?_, hk, h1 c (List.mem_of_getElem? hj)⟩
  have hjn : j < n := by
    have := (List.getElem?_eq_some_iff.1 hu).1
    omega
  have := hc j hjn
  rw [hu] at this
  rw [← this]
  obtain ⟨b, o, s⟩ := a
  simp only at hs; subst hs
  simp only [cellsP, add_none]
theorem PElems.of_rows {π : PM} {b c : Nat} : ∀ {xs : List P} {o : Nat}, (∀ (i : Nat) x, xs[i]? = some x → x.cells.length = c ∧ PRow π b (o + i * c) x.cells) → PElems π b o xs := by
  intro xs
  induction xs with
  | nil => intro o _; simp only [PElems]
  | cons x xs ih =>
    intro o h
    have h0 := h 0 x (by simp)
    rw [PElems.row, List.flatMap_cons, PRow.append, ← PElems.row]
    refine ⟨by simpa using h0.2, ?_⟩
    rw [h0.1]
    refine ih fun i y hy => ?_
    have := h (i + 1) y (by simpa using hy)
    refine ⟨this.1, ?_⟩
    have e : o + c + i * c = o + (i + 1) * c := by rw [Nat.add_mul]; omega
    rw [e]; exact this.2
theorem exists_list {α : Type} {n : Nat} {R : Nat → α → Prop} (h : ∀ i, i < n → ∃ x, R i x) : ∃ xs : List α, xs.length = n ∧ ∀ (i : Nat) x, xs[i]? = some x → R i x := by
  induction n with
  | zero => exact ⟨[], rfl, fun i x hx => by simp at hx⟩
  | succ n ih =>
    obtain ⟨xs, hl, hx⟩ := ih fun i hi => h i (by omega)
    obtain ⟨x, hr⟩ := h n (by omega)
    refine ⟨xs ++ [x], by simp [hl], fun i y hy => ?_⟩
    by_cases hi : i < n
    · rw [List.getElem?_append_left (by omega)] at hy; exact hx i y hy
    · have hi' : i = n := by
        have := (List.getElem?_eq_some_iff.1 hy).1
        simp [hl] at this; omega
      subst hi'
      rw [List.getElem?_append_right (by omega), hl] at hy
      simp at hy; subst hy; exact hr

theorem Spots.sub {cs ds : List Value} (h : Spots cs) (hs : ∀ v ∈ ds, v ∈ cs) : Spots ds := fun a l c k => h a l c (hs _ k)

theorem shpF_sound {sh : TypeId → Option (List S)} {R : TypeId → List Value → Prop} {cs : List Value}
    (ih : ∀ t ss ds, sh t = some ss → Pg.cellsOf t = ss.length → R t ds → (∀ v ∈ ds, v ∈ cs) → ∃ ps, PRels (cellsP w) ps ds ∧ Fitss ss ps) :
    ∀ (fs : List Field) (o : Nat) (ss : List S), shpF sh Pg fs o = some ss → o + ss.length = cs.length → (∀ f ∈ fs, R f.type ((cs.drop f.offset).take (Pg.cellsOf f.type))) →
      ∃ ps, PRels (cellsP w) ps (cs.drop o) ∧ Fitss ss ps
  | [], o, ss, h, hl, _ => by
    simp only [shpF, Option.some.injEq] at h; subst h
    simp at hl; subst hl
    exact ⟨[], by simp [PRels], by simp [Fitss]⟩
  | f :: fs, o, ss, h, hl, hr => by
    simp only [shpF, Option.bind_eq_some_iff] at h
    obtain ⟨a, ha, h⟩ := h
    split at h
    · rename_i hc
      obtain ⟨rfl, hc⟩ := hc
      simp only [Option.map_eq_some_iff] at h
      obtain ⟨b, hb, rfl⟩ := h
      obtain ⟨p1, q1, g1⟩ := ih f.type a _ ha hc (hr f (by simp)) (fun v hv => List.mem_of_mem_drop (List.mem_of_mem_take hv))
      obtain ⟨p2, q2, g2⟩ := shpF_sound ih fs _ b hb (by simp at hl; omega) (fun g hg => hr g (by simp [hg]))
      refine ⟨p1 ++ p2, ?_, g1.append g2⟩
      have := q1.append' q2
      rw [hc] at this
      rw [← List.drop_drop] at this
      rwa [List.take_append_drop] at this
    · cases h

theorem flat_sound {es : List S} {cs : List Value} {c : Nat} (hc : c = es.length) :
    ∀ (m o : Nat), (∀ i, o ≤ i → i < o + m → ∃ ps, PRels (cellsP w) ps ((cs.drop (i * c)).take c) ∧ Fitss es ps) →
      ∃ ps, PRels (cellsP w) ps ((cs.drop (o * c)).take (m * c)) ∧ Fitss (List.replicate m es).flatten ps := by
  intro m
  induction m with
  | zero => intro o _; exact ⟨[], by simp [PRels], by simp [Fitss]⟩
  | succ m ih =>
    intro o h
    obtain ⟨p1, q1, g1⟩ := h o (by omega) (by omega)
    obtain ⟨p2, q2, g2⟩ := ih (o + 1) fun i h1 h2 => h i (by omega) (by omega)
    refine ⟨p1 ++ p2, ?_, ?_⟩
    · have := q1.append' q2
      have e : (cs.drop (o * c)).take ((m + 1) * c) = (cs.drop (o * c)).take c ++ (cs.drop ((o + 1) * c)).take (m * c) := by
        rw [Nat.add_mul, Nat.one_mul, Nat.add_comm (m * c), List.take_add, List.drop_drop, Nat.add_mul, Nat.one_mul]
      rw [e]; exact this
    · rw [List.replicate_succ, List.flatten_cons]; exact g1.append g2

theorem trod_arr {k : Nat} {t e : TypeId} {m : Nat} {cs : List Value} {x : DataW H × List MemPlace} (ht : Pg.underlying t = some (.array k e)) (h : DataW.trod enc Pg w base spare held m t cs = some x) :
    ∃ n, cs.length = Pg.cellsOf t ∧ ∀ i, i < k → ∃ y, DataW.trod enc Pg w base spare held n e ((cs.drop (i * Pg.cellsOf e)).take (Pg.cellsOf e)) = some y := by
  cases m with
  | zero => simp [DataW.trod] at h
  | succ n =>
    unfold DataW.trod at h
    rw [ht] at h
    split at h <;> simp_all
    obtain ⟨hl, xs, hxs, _⟩ := h
    refine ⟨n, fun i hi => ?_⟩
    obtain ⟨h1, h2⟩ := mapM_get hxs
    have := h2 i i (by simp [hi])
    simp at h1
    exact ⟨_, _, by rw [this]; exact List.getElem?_eq_getElem (by omega)⟩
theorem shp_sound : ∀ (n : Nat) (deep : Bool) (t : TypeId) (ss : List S), shp Pg n deep t = some ss →
    ∀ (m : Nat) (cs : List Value) (x : DataW H × List MemPlace), DataW.trod enc Pg w base spare held m t cs = some x → (deep = false → Spots cs) → Pg.cellsOf t = ss.length →
      ∃ ps, PRels (cellsP w) ps cs ∧ Fitss ss ps := by
  intro n
  induction n with
  | zero => intro _ _ _ h; simp [shp] at h
  | succ n ih =>
    intro deep t ss h m cs x hx hsp hct
    unfold shp at h
    split at h
    · rename_i ht
      simp only [Option.some.injEq] at h; subst h
      obtain ⟨b, rfl, _⟩ := DataW.trod_bool ht hx
      exact ⟨[.bool b], by simp [PRels, PRel], by simp [Fitss, Fits]⟩
    · rename_i k ht
      simp only [Option.some.injEq] at h; subst h
      obtain ⟨b, rfl, _, hw⟩ := DataW.trod_int ht hx
      exact ⟨[.int k b], by simp [PRels, PRel], by simp [Fitss, Fits, hw]⟩
    · rename_i ht
      simp only [Option.some.injEq] at h; subst h
      obtain ⟨s, rfl, _, hw⟩ := DataW.trod_string ht hx
      exact ⟨[.str s.data.toList], by simp [PRels, PRel], by simp [Fitss, Fits]; exact hw⟩
    · rename_i e ht
      split at h
      · cases h
      · rename_i hdeep
        simp only [Option.bind_eq_some_iff] at h
        obtain ⟨es, hes, h⟩ := h
        split at h
        · rename_i hce
          have agg : ∃ g : Bool, ss = [.list es g] ∧ (g = false → es.length = 1) := by
            split at h
            · simp only [Option.some.injEq] at h; subst h; exact ⟨true, rfl, fun k => by cases k⟩
            · simp only [Option.some.injEq] at h; subst h; exact ⟨true, rfl, fun k => by cases k⟩
            · split at h
              · rename_i h1
                simp only [Option.some.injEq] at h; subst h; exact ⟨false, rfl, fun _ => h1⟩
              · cases h
          obtain ⟨g, rfl, hg⟩ := agg
          clear h
          rcases DataW.trod_slice ht hx with ⟨rfl, _⟩ | ⟨a, len, cap, elems, rest, n', _, rfl, _, hb, hl, hm, hlen, hel, _, _⟩
          · refine ⟨[.list []], ?_, by simp [Fitss, Fits]⟩
            simp only [PRels, PRel]
            exact ⟨_, _, rfl, ⟨none, 0, 0, rfl, rfl, Nat.le_refl _, .inl ⟨rfl, rfl⟩⟩, rfl⟩
          · have hspot : a.spot = none := hsp (by simpa using hdeep) a len cap (by simp)
            have each : ∀ i, i < len → ∃ y : P, ∃ cs, PRow (cellsP w) a.block (a.off + i * es.length) cs ∧ cs.length = es.length ∧ y.cells = cs ∧ Fitss es cs ∧ (g = true → y = .agg cs) ∧ (g = false → cs = [y]) := by
              intro i hi
              have hh := hel i hi
              rw [List.getElem?_eq_getElem (by omega)] at hh
              simp only [Option.bind_eq_some_iff] at hh
              obtain ⟨ds, hds, hy⟩ := hh
              obtain ⟨ps, q1, q2⟩ := ih true e es hes _ _ _ hy (fun k => by cases k) hce
              have hrow' : PRow (cellsP w) a.block (a.off + i * es.length) ps := by
                obtain ⟨b, o, s⟩ := a
                simp only at hspot; subst hspot
                rw [add_none] at hds
                have := row_of rfl hds q1 q2.one
                rwa [hce] at this
              cases g with
              | true => exact ⟨.agg ps, ps, hrow', q2.length, rfl, q2, fun _ => rfl, (fun k => by cases k)⟩
              | false =>
                have := hg rfl
                have hl1 := q2.length
                rw [this] at hl1
                obtain ⟨y, rfl⟩ := List.length_eq_one_iff.1 hl1
                refine ⟨y, [y], hrow', by simp [this], ?_, q2, (fun k => by cases k), fun _ => rfl⟩
                have := q2.one y (by simp)
                cases y <;> first | rfl | simp [P.one] at this
            obtain ⟨xs, hxl, hxs⟩ := exists_list each
            refine ⟨[.list xs], ?_, ?_⟩
            · obtain ⟨b, o, s⟩ := a
              simp only at hspot; subst hspot
              simp only [PRels, PRel]
              refine ⟨_, _, rfl, ⟨_, len, cap, rfl, by omega, hl, .inr ⟨b, o, rfl, ?_⟩⟩, rfl⟩
              refine PElems.of_rows (c := es.length) fun i x hi => ?_
              obtain ⟨cs, k1, k2, k3, _⟩ := hxs i x hi
              rw [k3]; exact ⟨k2, k1⟩
            · simp only [Fitss, Fits]
              refine ⟨_, _, rfl, ⟨xs, rfl, by omega, fun y hy => ?_⟩, rfl⟩
              obtain ⟨i, hi⟩ := List.getElem?_of_mem hy
              obtain ⟨cs, _, _, _, k4, k5, k6⟩ := hxs i y hi
              exact ⟨cs, k4, k5, k6⟩
        · cases h
    · rename_i fs ht
      obtain ⟨xs, n', _, _, hl, hxl, hf⟩ := DataW.trod_struct ht hx
      have := shpF_sound (w := w) (Pg := Pg) (sh := shp Pg n deep) (R := fun t ds => ∃ y, DataW.trod enc Pg w base spare held n' t ds = some y) (cs := cs) ?_ fs.toList 0 ss h (by omega) ?_
      · simpa using this
      · rintro t' ss' ds' hs' hc' ⟨y, hy⟩ hsub
        exact ih deep t' ss' hs' _ _ _ hy (fun k => (hsp k).sub hsub) hc'
      · intro f hf'
        obtain ⟨i, hi⟩ := List.getElem?_of_mem hf'
        have hi' : fs[i]? = some f := by simpa using hi
        have := hf i f hi'
        have hlt : i < xs.length := by
          rw [hxl]
          exact (Array.getElem?_eq_some_iff.1 hi').1
        exact ⟨_, by rw [this]; exact List.getElem?_eq_getElem hlt⟩
    · rename_i k e ht
      simp only [Option.bind_eq_some_iff] at h
      obtain ⟨es, hes, h⟩ := h
      split at h
      · rename_i hce
        simp only [Option.some.injEq] at h; subst h
        obtain ⟨n', hl, hf⟩ := trod_arr ht hx
        have hlen : cs.length = k * es.length := by
          rw [hl, hct]; simp
        have := flat_sound (w := w) (cs := cs) (es := es) (c := Pg.cellsOf e) hce k 0 ?_
        · simp only [Nat.zero_mul, List.drop_zero] at this
          rwa [List.take_of_length_le (by rw [hce]; omega)] at this
        · intro i _ hi
          obtain ⟨y, hy⟩ := hf i (by omega)
          exact ih deep e es hes _ _ _ hy (fun q => (hsp q).sub fun v hv => List.mem_of_mem_drop (List.mem_of_mem_take hv)) hce
      · cases h
    · cases h
end Go.Gh

/- The join of a law: from a contract over plain values, for all values of the parameters' shapes, to what the row asks of the call. -/
namespace Go.Gh
open Go.RowKit Go.ChangeShapes Go.WideShapes Go.ChangeAt

def argS (P : Program) (n : Nat) (t : TypeId) : Option (Bool × List S) :=
  match P.underlying t with
  | some (.struct _) => (shp P n false t).bind fun ss => if P.cellsOf t = ss.length then some (true, ss) else none
  | some (.array _ _) => (shp P n false t).bind fun ss => if P.cellsOf t = ss.length then some (true, ss) else none
  | _ => (shp P n false t).bind fun ss => if P.cellsOf t = ss.length ∧ ss.length = 1 then some (false, ss) else none
def argSs (P : Program) (n : Nat) : List TypeId → Option (List (Bool × List S))
  | [] => some []
  | t :: ts => match argS P n t, argSs P n ts with
    | some s, some ss => some (s :: ss)
    | _, _ => none
def FitA : Bool × List S → P → Prop
  | (true, ss), x => ∃ cs, x = .agg cs ∧ Fitss ss cs
  | (false, ss), x => Fitss ss [x]
def FitAs : List (Bool × List S) → List P → Prop
  | [], xs => xs = []
  | s :: ss, xs => ∃ y ys, xs = y :: ys ∧ FitA s y ∧ FitAs ss ys

variable {H : Type} {enc : TypeId × Value → H} {Pg : Program} {W : World} {base : Nat} {spare : Nat → Bool} {held : Bool}
theorem cell_spot {u : TypeId} {a : Addr} {len cap : Nat} {r : Reach} (h : Cell.okWide Pg W r base u (.slice (some a) len cap)) : a.spot = none := by
  unfold Cell.okWide at h
  cases hu : Pg.underlying u with
  | none => simp [hu, Cell.ok] at h
  | some d =>
    rw [hu] at h
    cases d <;> simp [Cell.ok, hu] at h
    exact h.2.2.2.1
theorem agg_spots {t : TypeId} {cs : Array Value} {r : Reach} (h : Row.okWide Pg W r base t cs) : Spots cs.toList := fun a len cap hm => by
  obtain ⟨ts, _, _, h⟩ := h
  obtain ⟨i, hi⟩ := List.getElem?_of_mem hm
  obtain ⟨u, _, hk⟩ := h i _ (by simpa using hi)
  exact cell_spot hk
theorem arg_of {n : Nat} {t : TypeId} {v : Value} {d : DataW H} {p : List MemPlace} {s : Bool × List S} {r : Reach} {b0 : Nat} (h : DataW.Trod enc Pg W base spare held t v d p) (hv : Value.okWide Pg W r b0 t v) (hs : argS Pg n t = some s) :
    ∃ x, PRel (cellsP W) x v ∧ FitA s x := by
  obtain ⟨fuel, h⟩ := h
  have aggs : (∃ cs, v = .agg cs ∧ cs.size = Pg.cellsOf t ∧ Row.okWide Pg W r b0 t cs) → (((shp Pg n false t).bind fun ss => if Pg.cellsOf t = ss.length then some (true, ss) else none) = some s) → ∃ x, PRel (cellsP W) x v ∧ FitA s x := by
    rintro ⟨cs, rfl, hl, ho⟩ hs
    simp only [Option.bind_eq_some_iff] at hs
    obtain ⟨ss, hss, hs⟩ := hs
    split at hs
    · rename_i hc
      simp only [Option.some.injEq] at hs; subst hs
      obtain ⟨ps, q1, q2⟩ := shp_sound n false t ss hss _ _ _ h (fun _ => agg_spots ho) hc
      refine ⟨.agg ps, ?_, ps, rfl, q2⟩
      simp only [PRel]
      exact ⟨_, rfl, q1⟩
    · cases hs
  have ones : v.cells = #[v] → Cell.okWide Pg W r b0 t v → (((shp Pg n false t).bind fun ss => if Pg.cellsOf t = ss.length ∧ ss.length = 1 then some (false, ss) else none) = some s) → ∃ x, PRel (cellsP W) x v ∧ FitA s x := by
    intro hv1 ho hs
    simp only [Option.bind_eq_some_iff] at hs
    obtain ⟨ss, hss, hs⟩ := hs
    split at hs
    · rename_i hc
      simp only [Option.some.injEq] at hs; subst hs
      obtain ⟨ps, q1, q2⟩ := shp_sound n false t ss hss _ _ _ h (fun _ => by
        rw [hv1]
        intro a len cap hm
        simp at hm; subst hm
        exact cell_spot ho) hc.1
      have hl := q2.length
      rw [hc.2] at hl
      obtain ⟨x, rfl⟩ := List.length_eq_one_iff.1 hl
      rw [hv1] at q1
      simp only [PRels] at q1
      obtain ⟨v', vs, e, q, e'⟩ := q1
      subst e'
      simp at e; subst e
      exact ⟨x, q, q2⟩
    · cases hs
  unfold argS at hs
  unfold Value.okWide at hv
  split at hs
  · rename_i hu; rw [hu] at hv; exact aggs hv hs
  · rename_i hu; rw [hu] at hv; exact aggs hv hs
  · rename_i h1 h2
    have ho : Cell.okWide Pg W r b0 t v := by
      revert hv
      cases hu : Pg.underlying t with
      | none => exact id
      | some d => cases d <;> first | exact id | exact absurd hu (h1 _) | exact absurd hu (h2 _ _)
    refine ones ?_ ho hs
    revert ho
    unfold Cell.okWide
    cases v with
    | agg cs => cases hu : Pg.underlying t with
      | none => simp [Cell.ok, hu]
      | some d => cases d <;> simp [Cell.ok, hu]
    | _ => intro _; rfl
theorem args_of {n : Nat} : ∀ {ts : List TypeId} {vs : List Value} {ds : List (DataW H)} {p : List MemPlace} {ss : List (Bool × List S)} {r : Reach} {b0 : Nat}, DataW.TrodAll enc Pg W base spare held ts vs ds p →
    (∀ (j : Nat) t v, ts[j]? = some t → vs[j]? = some v → Value.okWide Pg W r b0 t v) → argSs Pg n ts = some ss → ∃ ps, PRels (cellsP W) ps vs ∧ FitAs ss ps
  | [], vs, ds, p, ss, r, b0, h, _, hs => by
    obtain ⟨rfl, _⟩ := trodAll_nil h
    simp only [argSs, Option.some.injEq] at hs; subst hs
    exact ⟨[], by simp [PRels], by simp [FitAs]⟩
  | t :: ts, vs, ds, p, ss, r, b0, h, hv, hs => by
    obtain ⟨v, vs', d, ds', p', q, rfl, rfl, rfl, h1, h2⟩ := trodAll_cons h
    unfold argSs at hs
    split at hs
    · rename_i s ss' e1 e2
      simp only [Option.some.injEq] at hs; subst hs
      obtain ⟨x, k1, k2⟩ := arg_of h1 (hv 0 t v rfl rfl) e1
      obtain ⟨xs, k3, k4⟩ := args_of h2 (fun j t v a b => hv (j + 1) t v (by simpa using a) (by simpa using b)) e2
      refine ⟨x :: xs, ?_, ?_⟩
      · simp only [PRels]; exact ⟨_, _, rfl, k1, k3⟩
      · simp only [FitAs]; exact ⟨_, _, rfl, k2, k4⟩
    · cases hs
/-- The arguments read as before. -/
theorem trodAll_stays (hl : laidOutB Pg = true) {W W' : World} (hb : Below W.heap.size W W') : ∀ {ts : List TypeId} {vs : List Value} {ds : List (DataW H)} {p : List MemPlace},
    (ts.all fun t => Pg.readableRec t && decide (t < Pg.types.size)) = true → DataW.TrodAll enc Pg W 0 (fun _ => true) true ts vs ds p →
    DataW.TrodAll enc Pg W' 0 (fun b => decide (b < W.heap.size)) true ts vs ds p
  | [], vs, ds, p, _, h => by
    obtain ⟨rfl, rfl, rfl⟩ := trodAll_nil h
    exact trodAll_mk0
  | t :: ts, vs, ds, p, ht, h => by
    obtain ⟨v, vs', d, ds', p', q, rfl, rfl, rfl, h1, h2⟩ := trodAll_cons h
    simp only [List.all_cons, Bool.and_eq_true, decide_eq_true_eq] at ht
    have lt : ∀ x ∈ p', x.block < W.heap.size := by obtain ⟨m, hm⟩ := h1; exact DataW.trod_lt m _ _ _ hm
    exact trodAll_cons_mk (Below.trod hl ht.1.1 ht.1.2 h1 hb lt) (trodAll_stays hl hb ht.2 h2)
/-- What a law's row asks of the call. -/
theorem law_post {sp : ChangeSpec} {fn : Func} {f : FuncId} {n : Nat} {ss : List (Bool × List S)} {b : TypeId}
    (hl : laidOutB Pg = true) (hrd : (fn.params.toList.all fun t => Pg.readableRec t && decide (t < Pg.types.size)) = true)
    (hss : argSs Pg n fn.params.toList = some ss) (hres : fn.resultTypes = #[b]) (hb : Pg.underlying b = some .bool) (hvars : sp.vars = [])
    (hsp : ∀ ds : List (DataW H), ds.length = fn.params.size → sp.fn H ds = { results := [.lit (.bool true)], args := ds })
    (hlaw : ∀ ps, FitAs ss ps → PSpec Pg f ps (.ok (.bool true)))
    {args : Array Value} {ds gs : List (DataW H)} {before : List MemPlace} {base : Nat}
    (hval : ∀ (j : Nat) t v, fn.params[j]? = some t → args[j]? = some v → Value.okWide Pg W .any base t v)
    (hW : DataW.Whole enc Pg fn.params.toList sp.vars false W args.toList ds gs before) :
    Calls Pg f args W fun e W' => ∃ v, e = .returned v ∧ sp.post enc Pg fn false true false false W args v W' := by
  have hW' := hW
  obtain ⟨p, q, hA, hV, rfl, hfz, hnd⟩ := hW
  rw [hvars] at hV
  obtain ⟨rfl, rfl⟩ := trodVars_none hV
  have hval' : ∀ (j : Nat) t v, fn.params.toList[j]? = some t → args.toList[j]? = some v → Value.okWide Pg W .any base t v := fun j t v h1 h2 =>
    hval j t v (by simpa using h1) (by simpa using h2)
  obtain ⟨ps, k1, k2⟩ := args_of hA hval' hss
  have hds : ds.length = fn.params.size := by
    have := (trodAll_length hA).2
    simpa using this
  have := calls_of (w := W) (hlaw ps k2) k1
  refine (Calls.mono this) fun e W' ⟨u, π', he, hu, hbel⟩ => ?_
  simp only [PRel] at hu; subst hu
  refine ⟨_, he, ds, [], _, [], p, [], hW', ?_, ?_, ?_, hbel.frame _, fun h => by cases h⟩
  · rw [List.append_nil, hsp ds hds, hres]
    exact trodAll_mk1 (shut_bool hb _)
  · rw [List.append_nil, hsp ds hds]
    exact trodAll_stays hl hbel hrd hA
  · rw [List.append_nil, hsp ds hds, hvars]
    rfl
end Go.Gh

/- What the parameters of this seat's statements read as. -/
namespace Go.Proofs.Ytedihdnkalmoiaa
open Go.Gh
theorem own : ownKnob Try.prog.godebug = none := by kernel_rfl
theorem laidOut : laidOutB Try.prog = true := by kernel_rfl
def intS : S := .int .i64
def shSS : List S := [.int .i64, .list [.int .i64] false, .int .i64, .int .i64, .list [.int .i64, .int .i64, .bool] true]
theorem list_of {α : Type} {f : α → P} {Q : α → Prop} : ∀ {xs : List P}, (∀ y ∈ xs, ∃ a, y = f a ∧ Q a) → ∃ l : List α, xs = l.map f ∧ ∀ a ∈ l, Q a
  | [], _ => ⟨[], rfl, fun a h => by simp at h⟩
  | x :: xs, h => by
    obtain ⟨l, rfl, hl⟩ := list_of (xs := xs) fun y hy => h y (List.mem_cons_of_mem _ hy)
    obtain ⟨a, rfl, ha⟩ := h x (by simp)
    exact ⟨a :: l, rfl, fun b hb => by
      rcases List.mem_cons.1 hb with rfl | hb
      · exact ha
      · exact hl b hb⟩
theorem wf_i64 {n : Int} (h : (Lit.int .i64 n).wf = true) : inI n := by
  simpa [Lit.wf, IntKind.min, IntKind.max, IntKind.signed, IntKind.bits, inI] using h
theorem sh_of {x : P} (h : FitA (true, shSS) x) : ∃ s : Sh, x = .agg [.int .i64 s.num, .list (s.sizes.map (.int .i64)), .int .i64 s.lo, .int .i64 s.hi, .list (s.notes.map pn)] ∧
    inI s.num ∧ inI s.lo ∧ inI s.hi ∧ (∀ n ∈ s.sizes, inI n) ∧ ∀ n ∈ s.notes, inI n.a ∧ inI n.b := by
  simp only [FitA, shSS, Fitss, Fits] at h
  obtain ⟨cs, rfl, _, _, rfl, ⟨num, rfl, h1⟩, _, _, rfl, ⟨xs, rfl, _, hxs⟩, _, _, rfl, ⟨lo, rfl, h2⟩, _, _, rfl, ⟨hi, rfl, h3⟩, _, _, rfl, ⟨ys, rfl, _, hys⟩, rfl⟩ := h
  obtain ⟨l, rfl, hl⟩ := list_of (f := fun n : Int => P.int .i64 n) (Q := inI) (xs := xs) fun y hy => by
    obtain ⟨cs, ⟨_, _, rfl, ⟨n, rfl, hn⟩, rfl⟩, _, h⟩ := hxs y hy
    have := h trivial
    simp at this
    exact ⟨n, this.symm, wf_i64 hn⟩
  obtain ⟨m, rfl, hm⟩ := list_of (f := pn) (Q := fun n => inI n.a ∧ inI n.b) (xs := ys) fun y hy => by
    obtain ⟨cs, ⟨_, _, rfl, ⟨a, rfl, ha⟩, _, _, rfl, ⟨b, rfl, hb⟩, _, _, rfl, ⟨c, rfl⟩, rfl⟩, h, _⟩ := hys y hy
    exact ⟨⟨a, b, c⟩, h trivial, wf_i64 ha, wf_i64 hb⟩
  exact ⟨⟨num, l, lo, hi, m⟩, rfl, wf_i64 h1, wf_i64 h2, wf_i64 h3, hl, hm⟩
theorem int_of {x : P} (h : FitA (false, [.int .i64]) x) : ∃ n, x = .int .i64 n ∧ inI n := by
  simp only [FitA, Fitss, Fits] at h
  obtain ⟨_, _, e, ⟨n, rfl, h1⟩, rfl⟩ := h
  simp at e; subst e
  exact ⟨n, rfl, wf_i64 h1⟩
end Go.Proofs.Ytedihdnkalmoiaa

/- What the parameters of this seat's statements read as: small numbers, lists of them, a note. -/
namespace Go.Proofs.Ytedihdnkalmoiaa
open Go.Gh
theorem wf_u8 {n : Int} (h : (Lit.int .u8 n).wf = true) : 0 ≤ n ∧ n ≤ 255 := by
  simpa [Lit.wf, IntKind.min, IntKind.max, IntKind.signed, IntKind.bits] using h
theorem wf_u16 {n : Int} (h : (Lit.int .u16 n).wf = true) : 0 ≤ n ∧ n ≤ 65535 := by
  simpa [Lit.wf, IntKind.min, IntKind.max, IntKind.signed, IntKind.bits] using h
theorem u8_of {x : P} (h : FitA (false, [.int .u8]) x) : ∃ n : Nat, x = .int .u8 (n : Nat) ∧ n ≤ 255 := by
  simp only [FitA, Fitss, Fits] at h
  obtain ⟨_, _, e, ⟨n, rfl, h1⟩, rfl⟩ := h
  simp at e; subst e
  have := wf_u8 h1
  exact ⟨n.toNat, by rw [Int.toNat_of_nonneg this.1], by omega⟩
theorem u16_of {x : P} (h : FitA (false, [.int .u16]) x) : ∃ n : Nat, x = .int .u16 (n : Nat) ∧ n ≤ 65535 := by
  simp only [FitA, Fitss, Fits] at h
  obtain ⟨_, _, e, ⟨n, rfl, h1⟩, rfl⟩ := h
  simp at e; subst e
  have := wf_u16 h1
  exact ⟨n.toNat, by rw [Int.toNat_of_nonneg this.1], by omega⟩
theorem bytes_of {x : P} (h : FitA (false, [.list [.int .u8] false]) x) : ∃ bs : List Int, x = .list (bs.map (.int .u8)) ∧ bs.length ≤ maxLen ∧ ∀ b ∈ bs, 0 ≤ b ∧ b ≤ 255 := by
  simp only [FitA, Fitss, Fits] at h
  obtain ⟨_, _, e, ⟨xs, rfl, hl, hxs⟩, rfl⟩ := h
  simp at e; subst e
  obtain ⟨l, rfl, hl'⟩ := list_of (f := fun n : Int => P.int .u8 n) (Q := fun n => 0 ≤ n ∧ n ≤ 255) (xs := xs) fun y hy => by
    obtain ⟨cs, ⟨_, _, rfl, ⟨n, rfl, hn⟩, rfl⟩, _, h⟩ := hxs y hy
    have := h trivial
    simp at this
    exact ⟨n, this.symm, wf_u8 hn⟩
  exact ⟨l, rfl, by simpa using hl, hl'⟩
theorem u16s_of {x : P} (h : FitA (false, [.list [.int .u16] false]) x) : ∃ bs : List Int, x = .list (bs.map (.int .u16)) ∧ bs.length ≤ maxLen ∧ ∀ b ∈ bs, 0 ≤ b ∧ b ≤ 65535 := by
  simp only [FitA, Fitss, Fits] at h
  obtain ⟨_, _, e, ⟨xs, rfl, hl, hxs⟩, rfl⟩ := h
  simp at e; subst e
  obtain ⟨l, rfl, hl'⟩ := list_of (f := fun n : Int => P.int .u16 n) (Q := fun n => 0 ≤ n ∧ n ≤ 65535) (xs := xs) fun y hy => by
    obtain ⟨cs, ⟨_, _, rfl, ⟨n, rfl, hn⟩, rfl⟩, _, h⟩ := hxs y hy
    have := h trivial
    simp at this
    exact ⟨n, this.symm, wf_u16 hn⟩
  exact ⟨l, rfl, by simpa using hl, hl'⟩
theorem note_of {x : P} (h : FitA (true, [.int .i64, .int .i64, .bool]) x) : ∃ n : Nt, x = pn n ∧ inI n.a ∧ inI n.b := by
  simp only [FitA, Fitss, Fits] at h
  obtain ⟨_, rfl, _, _, rfl, ⟨a, rfl, ha⟩, _, _, rfl, ⟨b, rfl, hb⟩, _, _, rfl, ⟨c, rfl⟩, rfl⟩ := h
  exact ⟨⟨a, b, c⟩, rfl, wf_i64 ha, wf_i64 hb⟩
end Go.Proofs.Ytedihdnkalmoiaa

/- The document's ways: what they are, and that they come in order. -/
namespace Go.Proofs.Ytedihdnkalmoiaa
open Go.Gh
/-- A list that has for each number the least number that is the same plate. -/
def canon (w : List Int) : Prop := ∀ (i : Nat) v, w[i]? = some v → 0 ≤ v ∧ v ≤ (i : Int) ∧ w[v.toNat]? = some v
def cands : Nat → List Int → List (List Int)
  | 0, b => [b]
  | d + 1, b => (List.range (b.length + 1)).flatMap fun i => if least b i then cands d (b ++ [(i : Int)]) else []
theorem waysM_cands (s : Sh) (set : Nat) : ∀ (d : Nat) (b : List Int) (out : List (List Int)), waysM s set d b out = out ++ (cands d b).filter (wayM s set)
  | 0, b, out => by
    simp only [waysM, cands]
    cases h : wayM s set b <;> simp [h]
  | d + 1, b, out => by
    simp only [waysM, cands]
    rw [foldl_flat _ (fun i => (if least b i then cands d (b ++ [(i : Int)]) else []).filter (wayM s set)), List.filter_flatMap]
    intro i _ out
    cases h : least b i
    · simp
    · simp only [if_true]; exact waysM_cands s set d _ out
theorem allM_cands (s : Sh) (set : Nat) : allM s set = (cands s.sizes.length []).filter (wayM s set) := by
  rw [allM, waysM_cands, List.nil_append]
theorem canon_nil : canon [] := fun i v h => by simp at h
theorem canon_snoc {b : List Int} {i : Nat} (hb : canon b) (h : least b i = true) (hi : i ≤ b.length) : canon (b ++ [(i : Int)]) := fun j v hj => by
  by_cases hl : j < b.length
  · rw [List.getElem?_append_left hl] at hj
    obtain ⟨h1, h2, h3⟩ := hb j v hj
    refine ⟨h1, h2, ?_⟩
    rw [List.getElem?_append_left (by omega)]; exact h3
  · have hjl : j = b.length := by
      have := (List.getElem?_eq_some_iff.1 hj).1
      simp at this; omega
    subst hjl
    rw [List.getElem?_append_right (Nat.le_refl _)] at hj
    simp at hj; subst hj
    refine ⟨by omega, by omega, ?_⟩
    simp only [Int.toNat_natCast]
    simp only [least, Bool.or_eq_true, decide_eq_true_eq] at h
    rcases h with h | h
    · subst h; simp
    · have hlt := (List.getElem?_eq_some_iff.1 h).1
      rw [List.getElem?_append_left hlt]; exact h
theorem canon_take {w : List Int} (h : canon w) (n : Nat) : canon (w.take n) := fun i v hi => by
  rw [List.getElem?_take] at hi
  split at hi
  · rename_i hn
    obtain ⟨h1, h2, h3⟩ := h i v hi
    refine ⟨h1, h2, ?_⟩
    rw [List.getElem?_take, if_pos (by omega)]; exact h3
  · cases hi
theorem mem_cands : ∀ (d : Nat) (b : List Int), canon b → ∀ w, w ∈ cands d b ↔ (w.length = b.length + d ∧ b <+: w ∧ canon w)
  | 0, b, hb, w => by
    simp only [cands, List.mem_singleton]
    constructor
    · rintro rfl; exact ⟨rfl, List.prefix_refl _, hb⟩
    · rintro ⟨h1, h2, _⟩
      exact (List.IsPrefix.eq_of_length h2 (by omega)).symm
  | d + 1, b, hb, w => by
    simp only [cands, List.mem_flatMap, List.mem_range]
    constructor
    · rintro ⟨i, hi, hw⟩
      cases hl : least b i
      · rw [hl] at hw; simp at hw
      · rw [hl, if_pos rfl, mem_cands d _ (canon_snoc hb hl (by omega))] at hw
        obtain ⟨h1, h2, h3⟩ := hw
        refine ⟨by simp at h1; omega, List.IsPrefix.trans (List.prefix_append _ _) h2, h3⟩
    · rintro ⟨h1, h2, h3⟩
      obtain ⟨t, rfl⟩ := h2
      cases t with
      | nil => simp at h1
      | cons v t =>
        have hv : (b ++ v :: t)[b.length]? = some v := by rw [List.getElem?_append_right (Nat.le_refl _)]; simp
        obtain ⟨k1, k2, k3⟩ := h3 _ _ hv
        have hl : least b v.toNat = true := by
          simp only [least, Bool.or_eq_true, decide_eq_true_eq]
          by_cases e : v.toNat = b.length
          · exact .inl e
          · right
            rw [List.getElem?_append_left (by omega)] at k3
            rw [k3]; congr 1; omega
        have e : ((v.toNat : Nat) : Int) = v := by omega
        refine ⟨v.toNat, by omega, ?_⟩
        rw [hl, if_pos rfl, mem_cands d _ (canon_snoc hb hl (by omega)), e]
        refine ⟨by simp at h1 ⊢; omega, ⟨t, by simp⟩, h3⟩
theorem mem_allM {s : Sh} {set : Nat} {w : List Int} : w ∈ allM s set ↔ w.length = s.sizes.length ∧ canon w ∧ wayM s set w = true := by
  rw [allM_cands, List.mem_filter, mem_cands _ _ canon_nil]
  simp only [List.length_nil, Nat.zero_add, List.nil_prefix, true_and, and_assoc]

/-- One list comes before another one. -/
def lexL (u v : List Int) : Prop := ∃ k x y, u.take k = v.take k ∧ u[k]? = some x ∧ v[k]? = some y ∧ x < y
theorem cands_prefix {d : Nat} {b w : List Int} (h : w ∈ cands d b) : b <+: w := by
  induction d generalizing b with
  | zero => simp only [cands, List.mem_singleton] at h; subst h; exact List.prefix_refl _
  | succ d ih =>
    simp only [cands, List.mem_flatMap, List.mem_range] at h
    obtain ⟨i, _, hw⟩ := h
    cases hl : least b i
    · rw [hl] at hw; simp at hw
    · rw [hl, if_pos rfl] at hw
      exact List.IsPrefix.trans (List.prefix_append _ _) (ih hw)
theorem pairwise_flatMap_range {β : Type} {R : β → β → Prop} {f : Nat → List β} : ∀ n, (∀ i, i < n → (f i).Pairwise R) → (∀ i j, i < j → j < n → ∀ x ∈ f i, ∀ y ∈ f j, R x y) → ((List.range n).flatMap f).Pairwise R
  | 0, _, _ => by simp
  | n + 1, h1, h2 => by
    rw [List.range_succ, List.flatMap_append, List.pairwise_append]
    refine ⟨pairwise_flatMap_range n (fun i hi => h1 i (by omega)) (fun i j a b => h2 i j a (by omega)), by simpa using h1 n (by omega), ?_⟩
    intro x hx y hy
    simp only [List.mem_flatMap, List.mem_range] at hx
    obtain ⟨i, hi, hx⟩ := hx
    simp at hy
    exact h2 i n hi (by omega) x hx y hy
theorem cands_sorted : ∀ (d : Nat) (b : List Int), (cands d b).Pairwise lexL
  | 0, b => by simp [cands]
  | d + 1, b => by
    simp only [cands]
    refine pairwise_flatMap_range _ ?_ ?_
    · intro i _
      split
      · exact cands_sorted d _
      · exact List.Pairwise.nil
    · intro i j hij _ x hx y hy
      split at hx
      · split at hy
        · obtain ⟨t, rfl⟩ := cands_prefix hx
          obtain ⟨u, rfl⟩ := cands_prefix hy
          refine ⟨b.length, i, j, by simp, by simp, by simp, by omega⟩
        · simp at hy
      · simp at hx
theorem allM_sorted (s : Sh) (set : Nat) : (allM s set).Pairwise lexL := by
  rw [allM_cands]; exact (cands_sorted _ _).sublist List.filter_sublist
theorem lexL_ne {u v : List Int} (h : lexL u v) : u ≠ v := by
  rintro rfl
  obtain ⟨k, x, y, _, h1, h2, h3⟩ := h
  rw [h1] at h2; simp at h2; omega
theorem allM_nodup (s : Sh) (set : Nat) : (allM s set).Nodup := (allM_sorted s set).imp fun h => lexL_ne h
/-- The first way is not behind another one. -/
theorem first_le {s : Sh} {set : Nat} {l w : List Int} (hl : (allM s set)[0]? = some l) (hw : w ∈ allM s set) : w = l ∨ lexL l w := by
  have hp := allM_sorted s set
  cases h : allM s set with
  | nil => rw [h] at hl; simp at hl
  | cons a t =>
    rw [h] at hl hw hp
    simp at hl; subst hl
    rcases List.mem_cons.1 hw with rfl | hw
    · exact .inl rfl
    · exact .inr (List.rel_of_pairwise_cons hp hw)
end Go.Proofs.Ytedihdnkalmoiaa

/- What the program says of a valid shelf, in the words of its ways. -/
namespace Go.Proofs.Ytedihdnkalmoiaa
open Go.Gh
set_option maxRecDepth 100000
set_option maxHeartbeats 4000000
theorem heavy_len {s : Sh} {n m : Int} (h : heavyB s n m = false) : s.sizes.length ≤ 1048576 ∧ s.notes.length ≤ 1048576 := by
  simp only [heavyB, Bool.or_eq_false_iff, decide_eq_false_iff_not] at h
  omega
/-- All ways, with all notes. -/
def wA (s : Sh) : List (List Int) := allM s (everyN s)
def errA (s : Sh) : Int := if wA s = [] then 10 else 0
def sameA (s : Sh) (a b : Int) : Int := if wA s = [] then 0 else sameR a b (wA s)
def firstA (s : Sh) : List Int := (wA s).headD []
def loA (s : Sh) : Int := if wA s = [] then 0 else (spanR (wA s)).1
def hiA (s : Sh) : Int := if wA s = [] then 0 else (spanR (wA s)).2
def idleA (s : Sh) : Nat := if wA s = [] then 0 else idleR s s.notes.length
theorem c_same (s : Sh) (hv : s.valid = true) {a b : Int} (ha : 0 ≤ a ∧ a < s.num) (hb : 0 ≤ b ∧ b < s.num) : PSpec Try.prog 14 [.agg [.int .i64 s.num, .list (s.sizes.map (.int .i64)), .int .i64 s.lo, .int .i64 s.hi, .list (s.notes.map pn)], .int .i64 a, .int .i64 b] (.ok (.tuple [.int .i64 (sameA s a b), .int .i64 (errA s)])) := by
  have ha' : 0 ≤ a ∧ a ≤ s.num - 1 := by omega
  have hb' : 0 ≤ b ∧ b ≤ s.num - 1 := by omega
  cases hcb : canB s (onN s) (everyN s) with
  | true =>
    rw [sameA, errA, if_neg (show ¬ wA s = [] from can_ne hv hcb), if_neg (show ¬ wA s = [] from can_ne hv hcb), wA, ← same_eq hv hcb ha' hb']
    exact fun E A => p_same_t s hv hcb a b ha' hb'
  | false =>
    rw [sameA, errA, if_pos (show wA s = [] from can_nil hv hcb), if_pos (show wA s = [] from can_nil hv hcb)]
    exact fun E A => p_same_c s hv hcb a b ha' hb'
theorem c_first (s : Sh) (hv : s.valid = true) : PSpec Try.prog 18 [.agg [.int .i64 s.num, .list (s.sizes.map (.int .i64)), .int .i64 s.lo, .int .i64 s.hi, .list (s.notes.map pn)]] (.ok (.tuple [.list ((firstA s).map (.int .i64)), .int .i64 (errA s)])) := by
  cases hcb : canB s (onN s) (everyN s) with
  | true =>
    have hpos : 0 < ((onN s).filter (rightW s (everyN s))).length := by
      obtain ⟨w, hw, hr⟩ := List.any_eq_true.1 hcb
      exact List.length_pos_of_mem (List.mem_filter.2 ⟨hw, hr⟩)
    obtain ⟨w0, hw0⟩ : ∃ w, ((onN s).filter (rightW s (everyN s)))[0]? = some w := ⟨_, List.getElem?_eq_getElem hpos⟩
    have h1 := first_eq hv hw0
    rw [errA, if_neg (show ¬ wA s = [] from can_ne hv hcb), firstA, wA, headD_of h1]
    exact fun E A => p_first_t s hv hcb w0 hw0
  | false =>
    have h0 : wA s = [] := can_nil hv hcb
    rw [errA, if_pos h0, firstA, h0]
    exact fun E A => p_first_c s hv hcb
theorem c_count (s : Sh) (hv : s.valid = true) : PSpec Try.prog 16 [.agg [.int .i64 s.num, .list (s.sizes.map (.int .i64)), .int .i64 s.lo, .int .i64 s.hi, .list (s.notes.map pn)]] (.ok (.tuple [.int .i64 (wA s).length, .int .i64 0])) := by
  rw [wA, ← count_eq hv]
  exact fun E A => p_count s hv
theorem c_plates (s : Sh) (hv : s.valid = true) : PSpec Try.prog 20 [.agg [.int .i64 s.num, .list (s.sizes.map (.int .i64)), .int .i64 s.lo, .int .i64 s.hi, .list (s.notes.map pn)]] (.ok (.tuple [.agg [.int .i64 (loA s), .int .i64 (hiA s)], .int .i64 (errA s)])) := by
  cases hcb : canB s (onN s) (everyN s) with
  | true =>
    obtain ⟨e1, e2⟩ := plates_eq hv hcb
    have hne : ¬ wA s = [] := can_ne hv hcb
    rw [errA, loA, hiA, if_neg hne, if_neg hne, if_neg hne, wA, ← e1, ← e2]
    exact fun E A => p_plates_t s hv hcb
  | false =>
    have h0 : wA s = [] := can_nil hv hcb
    rw [errA, loA, hiA, if_pos h0, if_pos h0, if_pos h0]
    exact fun E A => p_plates_c s hv hcb
theorem c_clash (s : Sh) (hv : s.valid = true) : PSpec Try.prog 25 [.agg [.int .i64 s.num, .list (s.sizes.map (.int .i64)), .int .i64 s.lo, .int .i64 s.hi, .list (s.notes.map pn)]] (.ok (.tuple [.int .i64 (clashR s), .int .i64 0])) := by
  rw [← clash_eq hv]
  exact fun E A => p_clash s hv
theorem c_drop (s : Sh) (hv : s.valid = true) : PSpec Try.prog 27 [.agg [.int .i64 s.num, .list (s.sizes.map (.int .i64)), .int .i64 s.lo, .int .i64 s.hi, .list (s.notes.map pn)]] (.ok (.tuple [.int .i64 (dropR s), .int .i64 0])) := by
  rw [← drop_eq hv]
  exact fun E A => p_drop s hv
theorem c_idle (s : Sh) (hv : s.valid = true) : PSpec Try.prog 22 [.agg [.int .i64 s.num, .list (s.sizes.map (.int .i64)), .int .i64 s.lo, .int .i64 s.hi, .list (s.notes.map pn)]] (.ok (.tuple [.int .i64 (idleA s), .int .i64 (errA s)])) := by
  cases hcb : canB s (onN s) (everyN s) with
  | true =>
    have hne : ¬ wA s = [] := can_ne hv hcb
    rw [errA, idleA, if_neg hne, if_neg hne, ← idle_eq hv _ (Nat.le_refl _)]
    exact fun E A => p_idle_t s hv hcb
  | false =>
    have h0 : wA s = [] := can_nil hv hcb
    rw [errA, idleA, if_pos h0, if_pos h0]
    exact fun E A => p_idle_c s hv hcb
theorem c_count_f (s : Sh) (h1 : s.sizes.length ≤ 1048576) (h2 : s.notes.length ≤ 1048576) (hv : s.valid = false) : PSpec Try.prog 16 [.agg [.int .i64 s.num, .list (s.sizes.map (.int .i64)), .int .i64 s.lo, .int .i64 s.hi, .list (s.notes.map pn)]] (.ok (.tuple [.int .i64 0, .int .i64 1])) := fun E A => p_count_f s h1 h2 hv
theorem c_idle_f (s : Sh) (h1 : s.sizes.length ≤ 1048576) (h2 : s.notes.length ≤ 1048576) (hv : s.valid = false) : PSpec Try.prog 22 [.agg [.int .i64 s.num, .list (s.sizes.map (.int .i64)), .int .i64 s.lo, .int .i64 s.hi, .list (s.notes.map pn)]] (.ok (.tuple [.int .i64 0, .int .i64 1])) := fun E A => p_idle_f s h1 h2 hv
theorem c_clash_f (s : Sh) (h1 : s.sizes.length ≤ 1048576) (h2 : s.notes.length ≤ 1048576) (hv : s.valid = false) : PSpec Try.prog 25 [.agg [.int .i64 s.num, .list (s.sizes.map (.int .i64)), .int .i64 s.lo, .int .i64 s.hi, .list (s.notes.map pn)]] (.ok (.tuple [.int .i64 0, .int .i64 1])) := fun E A => p_clash_f s h1 h2 hv
theorem c_drop_f (s : Sh) (h1 : s.sizes.length ≤ 1048576) (h2 : s.notes.length ≤ 1048576) (hv : s.valid = false) : PSpec Try.prog 27 [.agg [.int .i64 s.num, .list (s.sizes.map (.int .i64)), .int .i64 s.lo, .int .i64 s.hi, .list (s.notes.map pn)]] (.ok (.tuple [.int .i64 0, .int .i64 1])) := fun E A => p_drop_f s h1 h2 hv
theorem c_first_f (s : Sh) (h1 : s.sizes.length ≤ 1048576) (h2 : s.notes.length ≤ 1048576) (hv : s.valid = false) : PSpec Try.prog 18 [.agg [.int .i64 s.num, .list (s.sizes.map (.int .i64)), .int .i64 s.lo, .int .i64 s.hi, .list (s.notes.map pn)]] (.ok (.tuple [.list [], .int .i64 1])) := fun E A => p_first_f s h1 h2 hv
theorem c_plates_f (s : Sh) (h1 : s.sizes.length ≤ 1048576) (h2 : s.notes.length ≤ 1048576) (hv : s.valid = false) : PSpec Try.prog 20 [.agg [.int .i64 s.num, .list (s.sizes.map (.int .i64)), .int .i64 s.lo, .int .i64 s.hi, .list (s.notes.map pn)]] (.ok (.tuple [.agg [.int .i64 0, .int .i64 0], .int .i64 1])) := fun E A => p_plates_f s h1 h2 hv
theorem mem_wA {s : Sh} {w : List Int} : w ∈ wA s ↔ w.length = s.sizes.length ∧ canon w ∧ wayM s (everyN s) w = true := mem_allM
theorem wayM_iff {s : Sh} {set : Nat} {w : List Int} : wayM s set w = true ↔ (∀ i, i < w.length → ∀ k, k < i → sizeOk s w i k = true) ∧ (∀ i, i < s.notes.length → noteOk s set w i = true) ∧ s.lo ≤ (cntP w w.length : Int) ∧ (cntP w w.length : Int) ≤ s.hi := by
  simp only [wayM, Bool.and_eq_true, List.all_eq_true, List.mem_range, decide_eq_true_eq, and_assoc]
theorem every_bit {s : Sh} {i : Nat} (h : i < s.notes.length) : (everyN s).testBit i = true := by
  simp only [everyN, Nat.testBit_two_pow_sub_one, h, decide_true]
end Go.Proofs.Ytedihdnkalmoiaa

/- What is told of two numbers, in plain Lean. -/
namespace Go.Proofs.Ytedihdnkalmoiaa
open Go.Gh
theorem nd_t {p : Prop} [Decidable p] (h : ¬ p) : (!decide p) = true := by simp [h]
theorem nd_f {p : Prop} [Decidable p] (h : p) : (!decide p) = false := by simp [h]
theorem sameR_one {a b : Int} {ls : List (List Int)} : sameR a b ls = 1 ↔ ∀ w ∈ ls, eqAt a b w = true := by
  have hl := List.length_filter_eq_length_iff (p := eqAt a b) (l := ls)
  unfold sameR
  constructor
  · intro h
    split at h
    · rename_i h1; exact hl.1 h1
    · split at h <;> simp at h
  · intro h; rw [if_pos (hl.2 h)]
theorem sameR_zero {a b : Int} {ls : List (List Int)} (hne : ls ≠ []) : sameR a b ls = 0 ↔ ∀ w ∈ ls, eqAt a b w = false := by
  have hp : 0 < ls.length := List.length_pos_iff.2 hne
  have h0 : (ls.filter (eqAt a b)).length = 0 ↔ ∀ w ∈ ls, eqAt a b w = false := by
    rw [List.length_eq_zero_iff, List.filter_eq_nil_iff]
    simp
  unfold sameR
  constructor
  · intro h
    split at h
    · simp at h
    · split at h
      · rename_i h1; exact h0.1 h1
      · simp at h
  · intro h
    have := h0.2 h
    rw [if_neg (by omega), if_pos this]
theorem sameR_range (a b : Int) (ls : List (List Int)) : sameR a b ls = 0 ∨ sameR a b ls = 1 ∨ sameR a b ls = 2 := by
  unfold sameR
  split
  · exact .inr (.inl rfl)
  · split
    · exact .inl rfl
    · exact .inr (.inr rfl)
theorem eqAt_comm (a b : Int) : eqAt a b = eqAt b a := by
  funext w; simp only [eqAt, eq_comm]
theorem sameR_comm (a b : Int) (ls : List (List Int)) : sameR a b ls = sameR b a ls := by
  unfold sameR; rw [eqAt_comm]
theorem sameR_self (a : Int) (ls : List (List Int)) : sameR a a ls = 1 := sameR_one.2 fun w _ => by simp [eqAt]
theorem sameR_trans {a b c : Int} {ls : List (List Int)} (h : sameR a b ls = 1) : sameR b c ls = sameR a c ls := by
  have h1 := sameR_one.1 h
  have e : ls.filter (eqAt b c) = ls.filter (eqAt a c) := List.filter_congr fun w hw => by
    have := h1 w hw
    simp only [eqAt, decide_eq_true_eq] at this ⊢
    rw [this]
  unfold sameR; rw [e]
theorem sizes_not {s : Sh} (hv : s.valid = true) {set a b : Nat} {p q : Int} {w : List Int} (hw : wayM s set w = true) (hl : w.length = s.sizes.length) (ha : s.sizes[a]? = some p) (hb : s.sizes[b]? = some q) (hp : p ≠ 0) (hq : q ≠ 0) (hpq : p ≠ q) : w[a]? ≠ w[b]? := by
  have key : ∀ {i k : Nat} {p q : Int}, k < i → s.sizes[i]? = some p → s.sizes[k]? = some q → p ≠ 0 → q ≠ 0 → p ≠ q → w[i]? ≠ w[k]? := by
    intro i k p q hk hi hq' h1 h2 h3 he
    have hil := (List.getElem?_eq_some_iff.1 hi).1
    have hkl := (List.getElem?_eq_some_iff.1 hq').1
    have hz := (wayM_iff.1 hw).1 i (by omega) k hk
    obtain ⟨x, hx⟩ : ∃ x, w[i]? = some x := ⟨_, List.getElem?_eq_getElem (by omega)⟩
    have hp0 := okS_of hv hi
    have hq0 := okS_of hv hq'
    rw [sizeOk, ← he, hx, hi, hq'] at hz
    have e1 : decide (p = q) = false := decide_eq_false h3
    have e2 : decide (0 < p) = true := decide_eq_true (by omega)
    have e3 : decide (0 < q) = true := decide_eq_true (by omega)
    simp [e1, e2, e3] at hz
  rcases Nat.lt_trichotomy a b with h | h | h
  · exact fun e => key h hb ha hq hp (Ne.symm hpq) e.symm
  · subst h; rw [ha] at hb; exact absurd (Option.some.inj hb) hpq
  · exact key h ha hb hp hq hpq
theorem note_eq {s : Sh} {k : Nat} {x : Nt} {w : List Int} (hw : wayM s (everyN s) w = true) (hx : s.notes[k]? = some x) : eqAt x.a x.b w = x.s := by
  have hk := (List.getElem?_eq_some_iff.1 hx).1
  have hn := (wayM_iff.1 hw).2.1 k hk
  simp only [noteOk, hx, every_bit hk, Bool.not_true, Bool.false_or, beq_iff_eq] at hn
  exact hn
/-! In the words of the shelf. -/
theorem sameA_range (s : Sh) (a b : Int) : sameA s a b = 0 ∨ sameA s a b = 1 ∨ sameA s a b = 2 := by
  unfold sameA
  split
  · exact .inl rfl
  · exact sameR_range _ _ _
theorem errA_ok {s : Sh} (h : wA s ≠ []) : errA s = 0 := if_neg h
theorem errA_no {s : Sh} (h : wA s = []) : errA s = 10 := if_pos h
theorem sameA_no {s : Sh} (h : wA s = []) (a b : Int) : sameA s a b = 0 := if_pos h
theorem sameA_eq {s : Sh} (h : wA s ≠ []) (a b : Int) : sameA s a b = sameR a b (wA s) := if_neg h
theorem sameA_comm (s : Sh) (a b : Int) : sameA s a b = sameA s b a := by
  unfold sameA; rw [sameR_comm]
theorem sameA_self {s : Sh} (h : wA s ≠ []) (a : Int) : sameA s a a = 1 := by rw [sameA_eq h]; exact sameR_self _ _
theorem sameA_trans {s : Sh} (h : wA s ≠ []) {a b : Int} (c : Int) (hab : sameA s a b = 1) : sameA s b c = sameA s a c := by
  rw [sameA_eq h] at hab ⊢
  rw [sameA_eq h]; exact sameR_trans hab
theorem sameA_sizes {s : Sh} (hv : s.valid = true) (h : wA s ≠ []) {a b : Nat} {p q : Int} (ha : s.sizes[a]? = some p) (hb : s.sizes[b]? = some q) (hp : p ≠ 0) (hq : q ≠ 0) (hpq : p ≠ q) : sameA s a b = 0 := by
  rw [sameA_eq h]
  refine (sameR_zero h).2 fun w hw => ?_
  obtain ⟨h1, _, h3⟩ := mem_wA.1 hw
  have := sizes_not hv h3 h1 ha hb hp hq hpq
  simp only [eqAt, Int.toNat_natCast, decide_eq_false_iff_not]
  exact this
theorem sameA_note {s : Sh} (h : wA s ≠ []) {k : Nat} {x : Nt} (hx : s.notes[k]? = some x) : sameA s x.a x.b = if x.s then 1 else 0 := by
  rw [sameA_eq h]
  cases hs : x.s with
  | true => exact sameR_one.2 fun w hw => by rw [note_eq (mem_wA.1 hw).2.2 hx, hs]
  | false =>
    have := (sameR_zero h).2 fun w hw => by rw [note_eq (mem_wA.1 hw).2.2 hx, hs]
    simpa using this
end Go.Proofs.Ytedihdnkalmoiaa

/- Sets of notes, by bits; a shelf with a part of its notes, in plain Lean. -/
namespace Go.Proofs.Ytedihdnkalmoiaa
open Go.Gh
theorem bitop_and_i64 (x y : Nat) (hx : x < 2 ^ 62) (hy : y < 2 ^ 62) : bitop .and .i64 (x : Int) (y : Int) = ((x &&& y : Nat) : Int) := by
  have e1 : (BitVec.ofInt 64 (x : Int)).toNat = x := by rw [BitVec.toNat_ofInt]; omega
  have e2 : (BitVec.ofInt 64 (y : Int)).toNat = y := by rw [BitVec.toNat_ofInt]; omega
  have h : (x &&& y) < 2 ^ 62 := Nat.lt_of_le_of_lt Nat.and_le_left hx
  show IntKind.i64.wrap ((BitVec.ofInt 64 (x : Int) &&& BitVec.ofInt 64 (y : Int)).toNat : Int) = _
  rw [BitVec.toNat_and, e1, e2]
  exact IntWalk.i64_in ((x &&& y : Nat) : Int) (by omega)
/-- One set without another one. -/
def lessS (x y : Nat) : Nat := x &&& (2 ^ 64 - 1 - y)
theorem bitop_andNot_i64 (x y : Nat) (hx : x < 2 ^ 62) (hy : y < 2 ^ 62) : bitop .andNot .i64 (x : Int) (y : Int) = ((lessS x y : Nat) : Int) := by
  have e1 : (BitVec.ofInt 64 (x : Int)).toNat = x := by rw [BitVec.toNat_ofInt]; omega
  have e2 : (BitVec.ofInt 64 (y : Int)).toNat = y := by rw [BitVec.toNat_ofInt]; omega
  have h : (x &&& (2 ^ 64 - 1 - y)) < 2 ^ 62 := Nat.lt_of_le_of_lt Nat.and_le_left hx
  show IntKind.i64.wrap ((BitVec.ofInt 64 (x : Int) &&& ~~~BitVec.ofInt 64 (y : Int)).toNat : Int) = _
  rw [BitVec.toNat_and, BitVec.toNat_not, e1, e2]
  exact IntWalk.i64_in ((x &&& (2 ^ 64 - 1 - y) : Nat) : Int) (by omega)
theorem lessS_le (x y : Nat) : lessS x y ≤ x := Nat.and_le_left
theorem lessS_bit {x y : Nat} (hy : y < 2 ^ 62) (hx : x < 2 ^ 62) (i : Nat) : (lessS x y).testBit i = (x.testBit i && !y.testBit i) := by
  have e : 2 ^ 64 - 1 - y = 2 ^ 64 - (y + 1) := by omega
  rw [lessS, Nat.testBit_and, e, Nat.testBit_two_pow_sub_succ (by omega)]
  by_cases h : i < 64
  · simp [h]
  · have : x.testBit i = false := Nat.testBit_lt_two_pow (Nat.lt_of_lt_of_le hx (Nat.pow_le_pow_right (by omega) (by omega)))
    simp [this]
theorem fdiv_pow (x n : Nat) (h : n < 64) : (x : Int).fdiv (2 ^ min n 64) = ((x / 2 ^ n : Nat) : Int) := by
  rw [Nat.min_eq_left (by omega)]
  have : ((2 : Int) ^ n) = ((2 ^ n : Nat) : Int) := by simp
  rw [this, Int.ofNat_fdiv]
/-- What the program asks of a bit. -/
theorem bit_i64 (x n : Nat) (hx : x < 2 ^ 62) (hn : n < 64) : bitop .and .i64 ((x : Int).fdiv (2 ^ min n IntKind.i64.bits)) 1 = (((x.testBit n).toNat : Nat) : Int) := by
  show bitop .and .i64 ((x : Int).fdiv (2 ^ min n 64)) 1 = _
  have h2 : x / 2 ^ n < 2 ^ 62 := Nat.lt_of_le_of_lt (Nat.div_le_self _ _) hx
  rw [fdiv_pow x n hn, show (1 : Int) = ((1 : Nat) : Int) from rfl, bitop_and_i64 _ 1 h2 (by omega), Nat.and_one_is_mod, Nat.toNat_testBit]
theorem bit_toNat (b : Bool) : decide (((b.toNat : Nat) : Int) = 1) = b := by cases b <;> rfl
/-! How many are in a set. -/
def cntB (f n : Nat) : Nat := ((List.range f).filter fun j => n.testBit j).length
theorem cntB_succ (f n : Nat) : cntB (f + 1) n = n % 2 + cntB f (n / 2) := by
  have e : (List.range f).filter (fun j => (n / 2).testBit j) = (List.range f).filter ((fun j => n.testBit j) ∘ Nat.succ) := by
    apply List.filter_congr
    intro j _
    simp [Nat.testBit_succ]
  rw [cntB, cntB, List.range_succ_eq_map, List.filter_cons, e, List.filter_map]
  have h0 : n.testBit 0 = decide (n % 2 = 1) := Nat.testBit_zero n
  by_cases h : n % 2 = 1
  · rw [if_pos (by simp [h])]; simp [h]; omega
  · rw [if_neg (by simp [h])]
    have : n % 2 = 0 := by omega
    simp [this]
theorem popF_cnt : ∀ (f n : Nat), popF f n = cntB f n
  | 0, n => by simp [popF, cntB]
  | f + 1, n => by rw [popF, cntB_succ, popF_cnt f]
theorem pop_cnt (n : Nat) : pop n = cntB 64 n := popF_cnt 64 n
theorem filter_lt {α : Type} {p q : α → Bool} : ∀ {l : List α}, (∀ x ∈ l, p x = true → q x = true) → (∃ x ∈ l, q x = true ∧ p x = false) → (l.filter p).length < (l.filter q).length
  | [], _, h => by obtain ⟨x, hx, _⟩ := h; cases hx
  | a :: l, h1, h2 => by
    have hle : ∀ {l : List α}, (∀ x ∈ l, p x = true → q x = true) → (l.filter p).length ≤ (l.filter q).length := fun {l} h => by
      induction l with
      | nil => simp
      | cons a l ih =>
        have := ih fun x hx => h x (by simp [hx])
        have ha := h a (by simp)
        rw [List.filter_cons, List.filter_cons]
        cases hp : p a <;> cases hq : q a <;> simp_all <;> omega
    rw [List.filter_cons, List.filter_cons]
    obtain ⟨x, hx, hxq, hxp⟩ := h2
    have ha := h1 a (by simp)
    have hl := hle fun x hx => h1 x (List.mem_cons_of_mem _ hx)
    rcases List.mem_cons.1 hx with rfl | hx
    · rw [if_neg (by simp [hxp]), if_pos hxq]; simp; omega
    · have := filter_lt (fun x hx => h1 x (List.mem_cons_of_mem _ hx)) ⟨x, hx, hxq, hxp⟩
      cases hp : p a <;> cases hq : q a <;> simp_all <;> omega
theorem pop_less {x i : Nat} (hx : x < 2 ^ 40) (hi : i < 40) (h : x.testBit i = true) : pop (lessS x (2 ^ i)) < pop x := by
  have h2 : 2 ^ i < 2 ^ 40 := Nat.pow_lt_pow_right (by omega) hi
  rw [pop_cnt, pop_cnt, cntB, cntB]
  refine filter_lt (fun j _ hj => ?_) ⟨i, List.mem_range.2 (by omega), h, ?_⟩
  · rw [lessS_bit (by omega) (by omega)] at hj
    simp only [Bool.and_eq_true] at hj; exact hj.1
  · rw [lessS_bit (by omega) (by omega)]
    simp [Nat.testBit_two_pow_self]
/-! A part of the notes. -/
def partT (l : List Nt) (set : Nat) : Nat → List Nt
  | 0 => []
  | k + 1 => partT l set k ++ match l[k]? with
    | some n => if set.testBit k then [n] else []
    | none => []
theorem partT_t {l : List Nt} {set k : Nat} {n : Nt} (h : l[k]? = some n) (hb : set.testBit k = true) : partT l set (k + 1) = partT l set k ++ [n] := by simp [partT, h, hb]
theorem partT_f {l : List Nt} {set k : Nat} {n : Nt} (h : l[k]? = some n) (hb : set.testBit k = false) : partT l set (k + 1) = partT l set k := by simp [partT, h, hb]
theorem partT_len (l : List Nt) (set : Nat) : ∀ k, (partT l set k).length ≤ k
  | 0 => Nat.le_refl _
  | k + 1 => by
    have := partT_len l set k
    simp only [partT, List.length_append]
    split
    · split <;> simp <;> omega
    · simp; omega
theorem partT_mem {l : List Nt} {set : Nat} {n : Nt} : ∀ {k : Nat}, n ∈ partT l set k ↔ ∃ i, i < k ∧ l[i]? = some n ∧ set.testBit i = true
  | 0 => by simp [partT]
  | k + 1 => by
    have ih := partT_mem (l := l) (set := set) (n := n) (k := k)
    cases hk : l[k]? with
    | none =>
      rw [show partT l set (k + 1) = partT l set k by simp [partT, hk], ih]
      constructor
      · rintro ⟨i, h1, h2⟩; exact ⟨i, by omega, h2⟩
      · rintro ⟨i, h1, h2, h3⟩
        by_cases e : i = k
        · subst e; rw [hk] at h2; cases h2
        · exact ⟨i, by omega, h2, h3⟩
    | some m =>
      cases hb : set.testBit k with
      | false =>
        rw [partT_f hk hb, ih]
        constructor
        · rintro ⟨i, h1, h2⟩; exact ⟨i, by omega, h2⟩
        · rintro ⟨i, h1, h2, h3⟩
          by_cases e : i = k
          · subst e; rw [hb] at h3; cases h3
          · exact ⟨i, by omega, h2, h3⟩
      | true =>
        rw [partT_t hk hb, List.mem_append, ih, List.mem_singleton]
        constructor
        · rintro (⟨i, h1, h2⟩ | rfl)
          · exact ⟨i, by omega, h2⟩
          · exact ⟨k, by omega, hk, hb⟩
        · rintro ⟨i, h1, h2, h3⟩
          by_cases e : i = k
          · subst e; rw [hk] at h2; exact .inr (Option.some.inj h2).symm
          · exact .inl ⟨i, by omega, h2, h3⟩
def partS (s : Sh) (set : Nat) : Sh := { s with notes := partT s.notes set s.notes.length }
def okNote (w : List Int) (n : Nt) : Bool := decide (w[n.a.toNat]? = w[n.b.toNat]?) == n.s
/-- A way: sizes agree, the notes of the set are right, there are as many plates as can be. -/
def sizesOk (s : Sh) (w : List Int) : Prop := ∀ i, i < w.length → ∀ k, k < i → sizeOk s w i k = true
theorem wayM_set {s : Sh} {set : Nat} {w : List Int} : wayM s set w = true ↔ sizesOk s w ∧ (∀ i n, s.notes[i]? = some n → set.testBit i = true → okNote w n = true) ∧ s.lo ≤ (cntP w w.length : Int) ∧ (cntP w w.length : Int) ≤ s.hi := by
  rw [wayM_iff]
  refine and_congr Iff.rfl (and_congr ?_ Iff.rfl)
  constructor
  · intro h i n hn hb
    have := h i (List.getElem?_eq_some_iff.1 hn).1
    simp only [noteOk, hn, hb, Bool.not_true, Bool.false_or] at this
    exact this
  · intro h i hi
    obtain ⟨n, hn⟩ : ∃ n, s.notes[i]? = some n := ⟨_, List.getElem?_eq_getElem hi⟩
    simp only [noteOk, hn]
    cases hb : set.testBit i with
    | false => rfl
    | true => have := h i n hn hb; simp only [Bool.not_true, Bool.false_or]; exact this
theorem wayM_full {s : Sh} {w : List Int} : wayM s (everyN s) w = true ↔ sizesOk s w ∧ (∀ n ∈ s.notes, okNote w n = true) ∧ s.lo ≤ (cntP w w.length : Int) ∧ (cntP w w.length : Int) ≤ s.hi := by
  rw [wayM_set]
  refine and_congr Iff.rfl (and_congr ?_ Iff.rfl)
  constructor
  · intro h n hn
    obtain ⟨i, hi⟩ := List.getElem?_of_mem hn
    exact h i n hi (every_bit (List.getElem?_eq_some_iff.1 hi).1)
  · intro h i n hn _
    exact h n (List.mem_of_getElem? hn)
theorem sizesOk_part {s : Sh} {set : Nat} {w : List Int} : sizesOk (partS s set) w ↔ sizesOk s w := Iff.rfl
theorem wayM_part {s : Sh} {set : Nat} {w : List Int} : wayM (partS s set) (everyN (partS s set)) w = wayM s set w := by
  rw [Bool.eq_iff_iff, wayM_full, wayM_set, sizesOk_part]
  refine and_congr Iff.rfl (and_congr ?_ Iff.rfl)
  constructor
  · intro h i n hn hb
    exact h n (partT_mem.2 ⟨i, (List.getElem?_eq_some_iff.1 hn).1, hn, hb⟩)
  · intro h n hn
    obtain ⟨i, _, h2, h3⟩ := partT_mem.1 hn
    exact h i n h2 h3
theorem wA_part (s : Sh) (set : Nat) : wA (partS s set) = allM s set := by
  rw [wA, allM_cands, allM_cands]
  exact List.filter_congr fun w _ => wayM_part
theorem valid_part {s : Sh} (hv : s.valid = true) (set : Nat) : (partS s set).valid = true := by
  have hl := partT_len s.notes set s.notes.length
  have hn := valid_num hv
  simp only [Sh.valid, Sh.head, Bool.and_eq_true, decide_eq_true_eq, Bool.not_eq_eq_eq_not, Bool.not_true, decide_eq_false_iff_not] at hv ⊢
  refine ⟨⟨?_, hv.1.2⟩, ?_⟩
  · simp only [partS]; omega
  · have hh := List.all_eq_true.1 hv.2
    refine List.all_eq_true.2 fun n hm => ?_
    obtain ⟨i, _, h2, _⟩ := partT_mem.1 hm
    exact hh n (List.mem_of_getElem? h2)
theorem allM_mono {s : Sh} {a b : Nat} (h : ∀ i, i < s.notes.length → a.testBit i = true → b.testBit i = true) {w : List Int} (hw : w ∈ allM s b) : w ∈ allM s a := by
  rw [mem_allM] at hw ⊢
  refine ⟨hw.1, hw.2.1, ?_⟩
  have := wayM_set.1 hw.2.2
  exact wayM_set.2 ⟨this.1, fun i n hn hb => this.2.1 i n hn (h i (List.getElem?_eq_some_iff.1 hn).1 hb), this.2.2⟩
theorem canR_iff {s : Sh} {a : Nat} : canR s a = true ↔ allM s a ≠ [] := by
  rw [canR, decide_eq_true_eq]
  constructor
  · intro h e; rw [e] at h; simp at h
  · intro h; have := List.length_pos_iff.2 h; omega
theorem canR_no {s : Sh} {a : Nat} : canR s a = false ↔ allM s a = [] := by
  have := canR_iff (s := s) (a := a)
  cases h : canR s a
  · simp [h] at this; simp [this]
  · simp [h] at this; simp [this]
theorem canR_mono {s : Sh} {a b : Nat} (h : ∀ i, i < s.notes.length → a.testBit i = true → b.testBit i = true) (hb : canR s b = true) : canR s a = true := by
  rw [canR_iff] at hb ⊢
  intro e
  obtain ⟨w, hw⟩ := List.exists_mem_of_ne_nil _ hb
  have := allM_mono h hw
  rw [e] at this; cases this
end Go.Proofs.Ytedihdnkalmoiaa

/- What clashes, and what must be wrong, in plain Lean. -/
namespace Go.Proofs.Ytedihdnkalmoiaa
open Go.Gh
theorem zero_bit (i : Nat) : (0 : Nat).testBit i = false := Nat.zero_testBit i
theorem can_zero {s : Sh} {a : Nat} (h : canR s a = true) : canR s 0 = true := canR_mono (fun i _ hb => by rw [zero_bit] at hb; cases hb) h
theorem can_every {s : Sh} {a : Nat} (h : canR s (everyN s) = true) : canR s a = true := canR_mono (fun i hi _ => every_bit hi) h
theorem wA_can {s : Sh} : wA s ≠ [] ↔ canR s (everyN s) = true := canR_iff.symm
theorem every_lt2 {s : Sh} (h : s.notes.length ≤ 12) : everyN s < 2 ^ 12 := everyN_lt h
theorem less_every {s : Sh} {t : Nat} (hl : s.notes.length ≤ 12) (ht : t ≤ everyN s) : lessS (everyN s) t = everyN s - t := by
  have := every2 (s := s)
  exact and_sub hl (by omega)
theorem clash_le {s : Sh} : clashR s ≤ everyN s := by
  unfold clashR
  split
  · omega
  · rcases clR_spec s (everyN s + 1) with ⟨_, h, _⟩ | ⟨_, h, _⟩ <;> omega
theorem drop_le {s : Sh} : dropR s ≤ everyN s := by
  unfold dropR
  split
  · omega
  · exact drR_le s _ (Nat.le_refl _)
theorem clash_none {s : Sh} (h : canR s 0 = false) : clashR s = 0 ∧ dropR s = 0 ∧ wA s = [] := by
  refine ⟨if_pos h, if_pos h, canR_no.1 ?_⟩
  cases h' : canR s (everyN s) with
  | false => rfl
  | true => rw [can_zero h'] at h; cases h
theorem clash_zero {s : Sh} (h0 : canR s 0 = true) : clashR s = 0 ↔ wA s ≠ [] := by
  rw [wA_can, clashR_2 h0]
  rcases clR_spec s (everyN s + 1) with ⟨_, h, h1⟩ | ⟨_, h, h1, h2⟩
  · exact ⟨fun _ => h1 _ (by omega), fun _ => h⟩
  · constructor
    · intro e; rw [e, h0] at h1; cases h1
    · intro e; rw [can_every e] at h1; cases h1
theorem clash_not {s : Sh} (h0 : canR s 0 = true) (h : clashR s ≠ 0) : canR s (clashR s) = false := by
  rw [clashR_2 h0] at h ⊢
  rcases clR_spec s (everyN s + 1) with ⟨_, h1, _⟩ | ⟨_, _, h1, _⟩
  · exact absurd h1 h
  · exact h1
theorem clash_min {s : Sh} (h0 : canR s 0 = true) (h : clashR s ≠ 0) {t : Nat} (ht : t ≤ everyN s) (hc : canR s t = false) : pop (clashR s) < pop t ∨ (pop (clashR s) = pop t ∧ clashR s ≤ t) := by
  rw [clashR_2 h0] at h ⊢
  rcases clR_spec s (everyN s + 1) with ⟨_, h1, _⟩ | ⟨_, _, _, h1⟩
  · exact absurd h1 h
  · exact h1 t (by omega) hc
theorem clash_each {s : Sh} (hl : s.notes.length ≤ 12) (h0 : canR s 0 = true) {i : Nat} (hi : i < s.notes.length) (hb : (clashR s).testBit i = true) : canR s (lessS (clashR s) (2 ^ i)) = true := by
  have hne : clashR s ≠ 0 := fun e => by rw [e, zero_bit] at hb; cases hb
  have hle := clash_le (s := s)
  have hev := every_lt2 hl
  have hp := pop_less (x := clashR s) (by omega) (by omega) hb
  cases hc : canR s (lessS (clashR s) (2 ^ i)) with
  | true => rfl
  | false =>
    have hle2 := lessS_le (clashR s) (2 ^ i)
    have := clash_min h0 hne (by omega) hc
    omega
theorem drop_can {s : Sh} (hl : s.notes.length ≤ 12) (h0 : canR s 0 = true) : canR s (lessS (everyN s) (dropR s)) = true := by
  rw [less_every hl drop_le, dropR_2 h0]
  rcases (drR_spec s _ (Nat.le_refl _)).1 with h | h
  · rw [h, Nat.sub_self]; exact h0
  · exact h.2
theorem pop_every (s : Sh) (hl : s.notes.length ≤ 12) : pop (everyN s) = s.notes.length := popF_ones _ _ (by omega)
theorem drop_min {s : Sh} (hl : s.notes.length ≤ 12) (h0 : canR s 0 = true) {t : Nat} (ht : t ≤ everyN s) (hc : canR s (lessS (everyN s) t) = true) : pop (dropR s) < pop t ∨ (pop (dropR s) = pop t ∧ dropR s ≤ t) := by
  rw [less_every hl ht] at hc
  rw [dropR_2 h0]
  have h := (drR_spec s _ (Nat.le_refl _)).2 t (by omega) hc
  rcases h with h | ⟨h1, h2 | h2⟩
  · exact .inl h
  · exact .inr ⟨h1, h2⟩
  · right
    refine ⟨h1, ?_⟩
    have e2 := every2 (s := s)
    rw [h2, pop_every s hl] at h1
    have hf : t = 2 ^ s.notes.length - 1 := popF_full 64 _ _ (by omega) (by unfold pop at h1; omega)
    rw [h2]; omega
theorem drop_zero {s : Sh} (hl : s.notes.length ≤ 12) (h0 : canR s 0 = true) : dropR s = 0 ↔ wA s ≠ [] := by
  rw [wA_can]
  constructor
  · intro e
    have := drop_can hl h0
    rw [e, less_every hl (Nat.zero_le _)] at this
    simpa using this
  · intro h
    have := drop_min hl h0 (Nat.zero_le _) (by rw [less_every hl (Nat.zero_le _)]; simpa using h)
    have p0 : pop 0 = 0 := by decide
    omega
end Go.Proofs.Ytedihdnkalmoiaa

/- Which notes tell nothing; a shelf with a note more, in plain Lean. -/
namespace Go.Proofs.Ytedihdnkalmoiaa
open Go.Gh
theorem filter_le' {α : Type} {p q : α → Bool} : ∀ {l : List α}, (∀ x ∈ l, p x = true → q x = true) → (l.filter p).length ≤ (l.filter q).length
  | [], _ => by simp
  | a :: l, h => by
    have ih := filter_le' (fun x hx => h x (List.mem_cons_of_mem a hx))
    have ha := h a (by simp)
    rw [List.filter_cons, List.filter_cons]
    cases hp : p a <;> cases hq : q a <;> simp_all <;> omega
theorem filter_eq' {α : Type} {p q : α → Bool} : ∀ {l : List α}, (∀ x ∈ l, p x = true → q x = true) → (l.filter p).length = (l.filter q).length → l.filter p = l.filter q
  | [], _, _ => rfl
  | a :: l, h, he => by
    have hl := filter_le' (fun x hx => h x (List.mem_cons_of_mem a hx))
    have ha := h a (by simp)
    rw [List.filter_cons, List.filter_cons] at he ⊢
    cases hp : p a
    · cases hq : q a
      · rw [hp, hq] at he
        exact filter_eq' (fun x hx => h x (List.mem_cons_of_mem a hx)) (by simpa using he)
      · rw [hp, hq] at he
        simp at he; omega
    · rw [hp, ha hp] at he
      rw [ha hp, if_pos rfl, if_pos rfl, filter_eq' (fun x hx => h x (List.mem_cons_of_mem a hx)) (by simpa using he)]
/-- Two shelves of as many numbers: more ways where less is asked. -/
theorem allM_le {s t : Sh} {a b : Nat} (hl : s.sizes.length = t.sizes.length) (h : ∀ w, w.length = s.sizes.length → wayM s a w = true → wayM t b w = true) : (allM s a).length ≤ (allM t b).length := by
  rw [allM_cands, allM_cands, ← hl]
  exact filter_le' fun w hw hp => h w (by have := (mem_cands _ _ canon_nil w).1 hw; simpa using this.1) hp
theorem allM_eq {s t : Sh} {a b : Nat} (hl : s.sizes.length = t.sizes.length) (h : ∀ w, w.length = s.sizes.length → wayM s a w = true → wayM t b w = true) (he : (allM s a).length = (allM t b).length) : allM s a = allM t b := by
  rw [allM_cands, allM_cands, ← hl] at he ⊢
  exact filter_eq' (fun w hw hp => h w (by have := (mem_cands _ _ canon_nil w).1 hw; simpa using this.1) hp) he
theorem allM_same {s t : Sh} {a b : Nat} (hl : s.sizes.length = t.sizes.length) (h : ∀ w, w.length = s.sizes.length → wayM s a w = wayM t b w) : allM s a = allM t b := by
  rw [allM_cands, allM_cands, ← hl]
  exact List.filter_congr fun w hw => h w (by have := (mem_cands _ _ canon_nil w).1 hw; simpa using this.1)
theorem wayM_mono {s : Sh} {a b : Nat} (h : ∀ i, i < s.notes.length → a.testBit i = true → b.testBit i = true) {w : List Int} (hw : wayM s b w = true) : wayM s a w = true := by
  have := wayM_set.1 hw
  exact wayM_set.2 ⟨this.1, fun i n hn hb => this.2.1 i n hn (h i (List.getElem?_eq_some_iff.1 hn).1 hb), this.2.2⟩
theorem idleR_bit (s : Sh) (j : Nat) : ∀ K, (idleR s K).testBit j = (decide (j < K) && decide ((allM s (everyN s - 2 ^ j)).length = (allM s (everyN s)).length))
  | 0 => by simp [idleR]
  | K + 1 => by
    have ih := idleR_bit s j K
    have hlt := idleR_lt s K
    by_cases hc : (allM s (everyN s - 2 ^ K)).length = (allM s (everyN s)).length
    · rw [idleR_t hc, Nat.add_comm]
      rcases Nat.lt_trichotomy j K with h | h | h
      · rw [Nat.testBit_two_pow_add_gt h, ih]
        simp [h, Nat.lt_succ_of_lt h]
      · subst h
        rw [Nat.testBit_two_pow_add_eq, Nat.testBit_lt_two_pow hlt]
        simp [hc]
      · have : 2 ^ K + idleR s K < 2 ^ j := by
          have : 2 ^ (K + 1) ≤ 2 ^ j := Nat.pow_le_pow_right (by omega) h
          rw [Nat.pow_succ] at this; omega
        rw [Nat.testBit_lt_two_pow this]
        simp; omega
    · rw [idleR_f hc, ih]
      by_cases h : j = K
      · subst h; simp [hc]
      · congr 1
        apply Bool.eq_iff_iff.2
        simp; omega
theorem pow_le_every {s : Sh} {k : Nat} (hk : k < s.notes.length) : 2 ^ k ≤ everyN s := by
  have := every2 (s := s)
  have := Nat.pow_lt_pow_right (a := 2) (by omega) hk
  omega
theorem less_bit {s : Sh} {k : Nat} (hl : s.notes.length ≤ 12) (hk : k < s.notes.length) (i : Nat) (hi : i < s.notes.length) : (everyN s - 2 ^ k).testBit i = !decide (i = k) := by
  have hp := pow_le_every hk
  have hev := every_lt2 hl
  rw [← less_every hl hp, lessS_bit (by omega) (by omega), every_bit hi, Nat.testBit_two_pow]
  by_cases h : i = k
  · subst h; simp
  · have : ¬ k = i := fun e => h e.symm
    simp [h, this]
/-- One note without another. -/
theorem less_ways {s : Sh} {k : Nat} : (allM s (everyN s)).length ≤ (allM s (everyN s - 2 ^ k)).length :=
  allM_le rfl fun _ _ hw => wayM_mono (fun i hi _ => every_bit hi) hw
theorem idleA_bit {s : Sh} (hne : wA s ≠ []) {k : Nat} (hk : k < s.notes.length) : (idleA s).testBit k = decide ((allM s (everyN s - 2 ^ k)).length = (wA s).length) := by
  rw [idleA, if_neg hne, idleR_bit, decide_eq_true hk, Bool.true_and]; rfl
theorem idleA_le {s : Sh} : idleA s ≤ everyN s := by
  unfold idleA
  split
  · omega
  · have := idleR_lt s s.notes.length
    have := every2 (s := s)
    omega
/-! A note more. -/
def addN (s : Sh) (x : Nt) : Sh := { s with notes := s.notes ++ [x] }
theorem wayM_add {s : Sh} {x : Nt} {w : List Int} : wayM (addN s x) (everyN (addN s x)) w = true ↔ wayM s (everyN s) w = true ∧ okNote w x = true := by
  rw [wayM_full, wayM_full]
  simp only [addN, List.mem_append, List.mem_singleton]
  constructor
  · rintro ⟨h1, h2, h3⟩
    exact ⟨⟨h1, fun n hn => h2 n (.inl hn), h3⟩, h2 x (.inr rfl)⟩
  · rintro ⟨⟨h1, h2, h3⟩, h4⟩
    refine ⟨h1, fun n hn => ?_, h3⟩
    rcases hn with hn | rfl
    · exact h2 n hn
    · exact h4
theorem valid_add {s : Sh} (hv : s.valid = true) {x : Nt} (hl : s.notes.length ≤ 11) (hx : okN s.num x = true) : (addN s x).valid = true := by
  have hn := valid_num hv
  simp only [Sh.valid, Sh.head, Bool.and_eq_true, decide_eq_true_eq, Bool.not_eq_eq_eq_not, Bool.not_true, decide_eq_false_iff_not] at hv ⊢
  refine ⟨⟨?_, hv.1.2⟩, ?_⟩
  · simp only [addN, List.length_append, List.length_cons, List.length_nil]; omega
  · have hh := List.all_eq_true.1 hv.2
    refine List.all_eq_true.2 fun n hm => ?_
    simp only [addN, List.mem_append, List.mem_singleton] at hm
    rcases hm with hm | rfl
    · exact hh n hm
    · exact hx
def revN (x : Nt) : Nt := ⟨x.b, x.a, x.s⟩
theorem okNote_rev (w : List Int) (x : Nt) : okNote w (revN x) = okNote w x := by
  simp only [okNote, revN, eq_comm]
theorem okN_rev {num : Int} {x : Nt} (h : okN num x = true) : okN num (revN x) = true := by
  rw [okN, Bool.and_eq_true, Bool.and_eq_true] at h
  rw [okN, Bool.and_eq_true, Bool.and_eq_true]
  have h2 : ¬ x.a = x.b := by have := h.2; simpa using this
  exact ⟨⟨h.1.2, h.1.1⟩, nd_t fun q => h2 (Eq.symm q)⟩
theorem okN_of {s : Sh} (hv : s.valid = true) {k : Nat} {x : Nt} (hx : s.notes[k]? = some x) : okN s.num x = true := by
  simp only [Sh.valid, Bool.and_eq_true] at hv
  exact List.all_eq_true.1 hv.2 _ (List.mem_of_getElem? hx)
theorem wA_twice {s : Sh} {k : Nat} {x : Nt} (hx : s.notes[k]? = some x) : wA (addN s (revN x)) = wA s := by
  refine allM_same rfl fun w _ => ?_
  rw [Bool.eq_iff_iff, wayM_add, okNote_rev]
  exact ⟨fun h => h.1, fun h => ⟨h, (wayM_full.1 h).2.1 x (List.mem_of_getElem? hx)⟩⟩
/-- Of a note that is told twice both tell nothing. -/
theorem twice_idle {s : Sh} (hv : s.valid = true) (hl : s.notes.length ≤ 11) {k j : Nat} {x : Nt} (hx : s.notes[k]? = some x) (hj : j = k ∨ j = s.notes.length) (hne : wA s ≠ []) : (idleA (addN s (revN x))).testBit j = true := by
  have hkl := (List.getElem?_eq_some_iff.1 hx).1
  have hlen : (addN s (revN x)).notes.length = s.notes.length + 1 := by simp [addN]
  have hjl : j < (addN s (revN x)).notes.length := by omega
  have hw := wA_twice hx
  rw [idleA_bit (by rw [hw]; exact hne) hjl, decide_eq_true_eq]
  have hy : (addN s (revN x)).notes[s.notes.length]? = some (revN x) := by simp [addN]
  have hz : (addN s (revN x)).notes[k]? = some x := by simp only [addN]; rw [List.getElem?_append_left hkl]; exact hx
  refine congrArg List.length (allM_same rfl fun w _ => ?_)
  rw [Bool.eq_iff_iff]
  constructor
  · intro h
    have h1 := wayM_set.1 h
    refine wayM_set.2 ⟨h1.1, fun i n hn _ => ?_, h1.2.2⟩
    have hil := (List.getElem?_eq_some_iff.1 hn).1
    by_cases e : i = j
    · subst e
      rcases hj with rfl | rfl
      · have := h1.2.1 _ _ hy (by rw [less_bit (by omega) hjl _ (by omega)]; simp; omega)
        rw [hz] at hn; cases hn
        rw [← okNote_rev]; exact this
      · have := h1.2.1 _ _ hz (by rw [less_bit (by omega) hjl _ (by omega)]; simp; omega)
        rw [hy] at hn; cases hn
        rw [okNote_rev]; exact this
    · exact h1.2.1 i n hn (by rw [less_bit (by omega) hjl _ hil]; simp [e])
  · exact wayM_mono fun i hi _ => every_bit hi
theorem idle_same {s : Sh} {k : Nat} (h : (allM s (everyN s - 2 ^ k)).length = (wA s).length) : allM s (everyN s - 2 ^ k) = wA s :=
  (allM_eq rfl (fun _ _ hw => wayM_mono (fun _ hi _ => every_bit hi) hw) h.symm).symm
end Go.Proofs.Ytedihdnkalmoiaa

/- The first way, and other lists, in plain Lean. -/
namespace Go.Proofs.Ytedihdnkalmoiaa
open Go.Gh
theorem sizeOk_iff {s : Sh} {w : List Int} {i k : Nat} {x y p q : Int} (hx : w[i]? = some x) (hy : w[k]? = some y) (hp : s.sizes[i]? = some p) (hq : s.sizes[k]? = some q) : sizeOk s w i k = true ↔ (x = y → p = q ∨ p ≤ 0 ∨ q ≤ 0) := by
  rw [sizeOk, hx, hy, hp, hq]
  by_cases h1 : x = y <;> by_cases h2 : p = q <;> by_cases h3 : 0 < p <;> by_cases h4 : 0 < q <;> simp [h1, h2, h3, h4] <;> omega
theorem foldmm (ls : List (List Int)) : ∀ (a b : Int), let r := ls.foldl (fun e w => (min e.1 (manyI w), max e.2 (manyI w))) (a, b)
    (r.1 ≤ a ∧ b ≤ r.2 ∧ ∀ w ∈ ls, r.1 ≤ manyI w ∧ manyI w ≤ r.2) ∧ (r.1 = a ∨ ∃ w ∈ ls, r.1 = manyI w) ∧ (r.2 = b ∨ ∃ w ∈ ls, r.2 = manyI w) := by
  induction ls with
  | nil => intro a b; simp
  | cons w ls ih =>
    intro a b
    simp only [List.foldl_cons]
    obtain ⟨⟨h1, h2, h3⟩, h4, h5⟩ := ih (min a (manyI w)) (max b (manyI w))
    refine ⟨⟨by clear h4 h5; omega, by clear h4 h5; omega, fun v hv => ?_⟩, ?_, ?_⟩
    · clear h4 h5
      rcases List.mem_cons.1 hv with rfl | hv
      · omega
      · exact h3 v hv
    · clear h5
      rcases h4 with h4 | ⟨v, hv, h4⟩
      · by_cases h : a ≤ manyI w
        · left; omega
        · exact .inr ⟨w, by simp, by omega⟩
      · exact .inr ⟨v, by simp [hv], h4⟩
    · clear h4
      rcases h5 with h5 | ⟨v, hv, h5⟩
      · by_cases h : manyI w ≤ b
        · left; omega
        · exact .inr ⟨w, by simp, by omega⟩
      · exact .inr ⟨v, by simp [hv], h5⟩
theorem headD_mem {ls : List (List Int)} (h : ls ≠ []) : ls.headD [] ∈ ls := by
  cases ls with
  | nil => exact absurd rfl h
  | cons a t => simp
theorem spanR_in {ls : List (List Int)} {w : List Int} (hw : w ∈ ls) : (spanR ls).1 ≤ manyI w ∧ manyI w ≤ (spanR ls).2 := (foldmm ls _ _).1.2.2 w hw
theorem spanR_lo {ls : List (List Int)} (h : ls ≠ []) : ∃ w ∈ ls, (spanR ls).1 = manyI w := by
  rcases (foldmm ls (manyI (ls.headD [])) (manyI (ls.headD []))).2.1 with e | e
  · exact ⟨_, headD_mem h, e⟩
  · exact e
theorem spanR_hi {ls : List (List Int)} (h : ls ≠ []) : ∃ w ∈ ls, (spanR ls).2 = manyI w := by
  rcases (foldmm ls (manyI (ls.headD [])) (manyI (ls.headD []))).2.2 with e | e
  · exact ⟨_, headD_mem h, e⟩
  · exact e
theorem span_in {s : Sh} {w : List Int} (hw : w ∈ wA s) : loA s ≤ (cntP w w.length : Int) ∧ (cntP w w.length : Int) ≤ hiA s := by
  have hne : wA s ≠ [] := fun e => by rw [e] at hw; simp at hw
  rw [loA, hiA, if_neg hne, if_neg hne]; exact spanR_in hw
theorem span_out {s : Sh} (hne : wA s ≠ []) : s.lo ≤ loA s ∧ hiA s ≤ s.hi := by
  rw [loA, hiA, if_neg hne, if_neg hne]
  obtain ⟨w, hw, e⟩ := spanR_lo hne
  obtain ⟨v, hv, e'⟩ := spanR_hi hne
  rw [e, e']
  exact ⟨(wayM_iff.1 (mem_wA.1 hw).2.2).2.2.1, (wayM_iff.1 (mem_wA.1 hv).2.2).2.2.2⟩
theorem firstA_mem {s : Sh} (hne : wA s ≠ []) : firstA s ∈ wA s := headD_mem hne
theorem firstA_no {s : Sh} (h : wA s = []) : firstA s = [] := by rw [firstA, h]; rfl
theorem first_lex {s : Sh} {w : List Int} (hw : w ∈ wA s) : w = firstA s ∨ lexL (firstA s) w := by
  have hne : wA s ≠ [] := fun e => by rw [e] at hw; simp at hw
  refine first_le (s := s) (set := everyN s) ?_ hw
  show (wA s)[0]? = some (firstA s)
  cases h : wA s with
  | nil => exact absurd h hne
  | cons a t => rw [firstA, h]; rfl
/-- Where two lists part first, the one that comes before has the lesser number. -/
theorem lex_at {u v : List Int} {k : Nat} {x y : Int} (h : v = u ∨ lexL u v) (he : u.take k = v.take k) (hx : u[k]? = some x) (hy : v[k]? = some y) (hne : ¬ x = y) : x < y := by
  rcases h with rfl | ⟨j, a, b, h1, h2, h3, h4⟩
  · rw [hx] at hy; exact absurd (Option.some.inj hy) hne
  · have at_ : ∀ {n m : Nat}, u.take m = v.take m → n < m → u[n]? = v[n]? := fun {n m} e hn => by
      have := congrArg (fun l => l[n]?) e
      simpa [List.getElem?_take, hn] using this
    rcases Nat.lt_trichotomy j k with h | h | h
    · have := at_ he h
      rw [h2, h3] at this
      have := Option.some.inj this; omega
    · subst h
      rw [hx] at h2; rw [hy] at h3
      cases h2; cases h3; exact h4
    · have := at_ h1 h
      rw [hx, hy] at this
      exact absurd (Option.some.inj this) hne
theorem take_next {u v : List Int} {k : Nat} {x y : Int} (he : u.take k = v.take k) (hx : u[k]? = some x) (hy : v[k]? = some y) (h : x = y) : u.take (k + 1) = v.take (k + 1) := by
  rw [List.take_add_one, List.take_add_one, he, hx, hy, h]
/-! The other list, by remainders. -/
def ownF (bs : List Int) (i : Nat) (own : List Int) : Int :=
  let k := if bs.length = 0 then i else (bs.getD (i % bs.length) 0).toNat % (i + 1)
  if k < i then own.getD k 0 else k
def ownL (bs : List Int) : Nat → List Int
  | 0 => []
  | i + 1 => ownL bs i ++ [ownF bs i (ownL bs i)]
@[simp] theorem ownL_len (bs : List Int) : ∀ i, (ownL bs i).length = i
  | 0 => rfl
  | i + 1 => by simp [ownL, ownL_len bs i]
theorem ownL_a {bs : List Int} {i : Nat} (h : bs.length = 0) : ownL bs (i + 1) = ownL bs i ++ [(i : Int)] := by
  simp [ownL, ownF, h]
theorem ownL_b {bs : List Int} {i u j k : Nat} {x : Int} (hn : 0 < bs.length) (hj : i % bs.length = j) (hu : bs[j]? = some (u : Int)) (hkk : u % (i + 1) = k) (hk : k < i) (hx : (ownL bs i)[k]? = some x) : ownL bs (i + 1) = ownL bs i ++ [x] := by
  subst hj hkk
  have h0 : ¬ bs.length = 0 := by omega
  simp only [ownL, ownF, if_neg h0, List.getD_eq_getElem?_getD, hu, Option.getD_some, Int.toNat_natCast, if_pos hk, hx]
theorem ownL_c {bs : List Int} {i u j k : Nat} (hn : 0 < bs.length) (hj : i % bs.length = j) (hu : bs[j]? = some (u : Int)) (hkk : u % (i + 1) = k) (hk : i ≤ k) : ownL bs (i + 1) = ownL bs i ++ [(k : Int)] := by
  subst hj hkk
  have h0 : ¬ bs.length = 0 := by omega
  simp only [ownL, ownF, if_neg h0, List.getD_eq_getElem?_getD, hu, Option.getD_some, Int.toNat_natCast, if_neg (Nat.not_lt.2 hk)]
theorem canon_app {b : List Int} {v : Int} (hb : canon b) (h0 : 0 ≤ v) (h1 : v ≤ (b.length : Int)) (h2 : v < (b.length : Int) → b[v.toNat]? = some v) : canon (b ++ [v]) := by
  have := canon_snoc (i := v.toNat) hb (by
    simp only [least, Bool.or_eq_true, decide_eq_true_eq]
    by_cases h : v.toNat = b.length
    · exact .inl h
    · right; rw [h2 (by omega)]; congr 1; omega) (by omega)
  rwa [Int.toNat_of_nonneg h0] at this
theorem ownL_canon (bs : List Int) : ∀ i, canon (ownL bs i)
  | 0 => canon_nil
  | i + 1 => by
    have ih := ownL_canon bs i
    have hl := ownL_len bs i
    have key : ∀ k, k ≤ i → canon (ownL bs i ++ [if k < i then (ownL bs i).getD k 0 else (k : Int)]) := fun k hk => by
      by_cases h : k < i
      · rw [if_pos h]
        obtain ⟨x, hx⟩ : ∃ x, (ownL bs i)[k]? = some x := ⟨_, List.getElem?_eq_getElem (by omega)⟩
        rw [List.getD_eq_getElem?_getD, hx, Option.getD_some]
        obtain ⟨a, b, c⟩ := ih k x hx
        exact canon_app ih a (by omega) fun _ => c
      · rw [if_neg h]
        exact canon_app ih (by omega) (by omega) fun h' => by omega
    exact key _ (by
      split
      · exact Nat.le_refl _
      · have : (bs.getD (i % bs.length) 0).toNat % (i + 1) < i + 1 := Nat.mod_lt _ (Nat.succ_pos i)
        omega)
theorem own_mem {s : Sh} (hv : s.valid = true) (bs : List Int) : ownL bs s.num.toNat ∈ wA s ↔ wayM s (everyN s) (ownL bs s.num.toNat) = true := by
  have hn := valid_num hv
  rw [mem_wA]
  exact ⟨fun h => h.2.2, fun h => ⟨by rw [ownL_len]; omega, ownL_canon _ _, h⟩⟩
theorem tm1 (a b : Nat) : (a : Int).tmod (b : Int) = ((a % b : Nat) : Int) := (Int.ofNat_tmod a b).symm
theorem tm2 (a b : Nat) : (a : Int).tmod ((b : Int) + 1) = ((a % (b + 1) : Nat) : Int) := by
  have := (Int.ofNat_tmod a (b + 1)).symm
  simpa using this
end Go.Proofs.Ytedihdnkalmoiaa

/- A shelf whose numbers and notes are told in another order, in plain Lean. -/
namespace Go.Proofs.Ytedihdnkalmoiaa
open Go.Gh
/-- What has no two alike and goes into another list, apart, is no longer. -/
theorem sub_len {α : Type} [DecidableEq α] : ∀ {l m : List α}, l.Nodup → (∀ x ∈ l, x ∈ m) → l.length ≤ m.length
  | [], m, _, _ => by simp
  | a :: l, m, hn, hs => by
    have ha := hs a (by simp)
    have hn' := List.nodup_cons.1 hn
    have := sub_len (l := l) (m := m.erase a) hn'.2 fun x hx => by
      have hne : x ≠ a := fun e => hn'.1 (e ▸ hx)
      exact (List.mem_erase_of_ne hne).2 (hs x (by simp [hx]))
    rw [List.length_erase_of_mem ha] at this
    have := List.length_pos_of_mem ha
    simp; omega
theorem inj_len {α β : Type} [DecidableEq β] {l : List α} {m : List β} (f : α → β) (hn : l.Nodup) (hf : ∀ x ∈ l, f x ∈ m) (hi : ∀ x ∈ l, ∀ y ∈ l, f x = f y → x = y) : l.length ≤ m.length := by
  have h1 : (l.map f).Nodup := by
    rw [List.Nodup, List.pairwise_map]
    exact (List.pairwise_iff_forall_sublist.2 fun {a b} hab => by
      intro e
      have hp := (List.pairwise_iff_forall_sublist.1 hn) hab
      have ha : a ∈ l := hab.subset (by simp)
      have hb : b ∈ l := hab.subset (by simp)
      exact hp (hi a ha b hb e))
  have := sub_len h1 (m := m) fun y hy => by
    obtain ⟨x, hx, rfl⟩ := List.mem_map.1 hy
    exact hf x hx
  simpa using this
/-! Lists by the numbers that are alike. -/
def leastN (R : Nat → Nat → Bool) (i : Nat) : Nat := ((List.range (i + 1)).find? fun j => R i j).getD i
def canL (n : Nat) (R : Nat → Nat → Bool) : List Int := (List.range n).map fun i => ((leastN R i : Nat) : Int)
structure Eqv (n : Nat) (R : Nat → Nat → Bool) : Prop where
  refl : ∀ i, i < n → R i i = true
  symm : ∀ i j, i < n → j < n → R i j = true → R j i = true
  trans : ∀ i j k, i < n → j < n → k < n → R i j = true → R j k = true → R i k = true
theorem least_spec {n : Nat} {R : Nat → Nat → Bool} (h : Eqv n R) {i : Nat} (hi : i < n) : leastN R i ≤ i ∧ R i (leastN R i) = true ∧ ∀ j, j < leastN R i → R i j = false := by
  unfold leastN
  cases hf : (List.range (i + 1)).find? fun j => R i j with
  | none =>
    have := List.find?_eq_none.1 hf i (by simp)
    rw [h.refl i hi] at this; simp at this
  | some m =>
    have h1 := List.find?_some hf
    have h2 := List.mem_of_find?_eq_some hf
    have h3 : m ≤ i := by have := List.mem_range.1 h2; omega
    refine ⟨h3, h1, fun j hj => ?_⟩
    simp only [Option.getD_some] at hj
    cases hR : R i j with
    | false => rfl
    | true =>
      exfalso
      obtain ⟨_, l1, l2, e, hall⟩ := List.find?_eq_some_iff_append.1 hf
      have hjm : j ∈ List.range (i + 1) := List.mem_range.2 (by omega)
      rw [e] at hjm
      rcases List.mem_append.1 hjm with hja | hja
      · have := hall j hja
        rw [hR] at this; simp at this
      · have hs := List.pairwise_append.1 (e ▸ (List.pairwise_lt_range (n := i + 1)))
        rcases List.mem_cons.1 hja with rfl | hjb
        · omega
        · have := (List.pairwise_cons.1 hs.2.1).1 j hjb
          omega
theorem least_same {n : Nat} {R : Nat → Nat → Bool} (h : Eqv n R) {i j : Nat} (hi : i < n) (hj : j < n) : leastN R i = leastN R j ↔ R i j = true := by
  obtain ⟨a1, a2, a3⟩ := least_spec h hi
  obtain ⟨b1, b2, b3⟩ := least_spec h hj
  constructor
  · intro e
    rw [← e] at b2
    exact h.trans i _ j hi (by omega) hj a2 (h.symm j _ hj (by omega) b2)
  · intro hR
    have c1 : R j (leastN R i) = true := h.trans j i _ hj hi (by omega) (h.symm i j hi hj hR) a2
    have c2 : R i (leastN R j) = true := h.trans i j _ hi hj (by omega) hR b2
    have d1 : ¬ leastN R i < leastN R j := fun hl => by rw [b3 _ hl] at c1; cases c1
    have d2 : ¬ leastN R j < leastN R i := fun hl => by rw [a3 _ hl] at c2; cases c2
    omega
theorem canL_get {n : Nat} {R : Nat → Nat → Bool} {i : Nat} (hi : i < n) : (canL n R)[i]? = some ((leastN R i : Nat) : Int) := by
  rw [canL, List.getElem?_map, List.getElem?_range hi]; rfl
theorem canL_len (n : Nat) (R : Nat → Nat → Bool) : (canL n R).length = n := by simp [canL]
theorem canL_canon {n : Nat} {R : Nat → Nat → Bool} (h : Eqv n R) : canon (canL n R) := fun i v hv => by
  have hi : i < n := by
    have := (List.getElem?_eq_some_iff.1 hv).1
    rwa [canL_len] at this
  rw [canL_get hi] at hv
  have hv := Option.some.inj hv
  obtain ⟨a1, a2, a3⟩ := least_spec h hi
  subst hv
  refine ⟨by omega, by omega, ?_⟩
  rw [Int.toNat_natCast, canL_get (by omega)]
  have := (least_same h (i := leastN R i) (j := i) (by omega) hi).2 (h.symm i _ hi (by omega) a2)
  rw [this]
theorem canL_same {n : Nat} {R : Nat → Nat → Bool} (h : Eqv n R) {i j : Nat} (hi : i < n) (hj : j < n) : (canL n R)[i]? = (canL n R)[j]? ↔ R i j = true := by
  rw [canL_get hi, canL_get hj, ← least_same h hi hj]
  constructor
  · intro e; have := Option.some.inj e; omega
  · intro e; rw [e]
/-- A list that has the least numbers is known by what is alike. -/
theorem canon_eq {u v : List Int} (hu : canon u) (hv : canon v) (hl : u.length = v.length) (h : ∀ i j, i < u.length → j < u.length → (u[i]? = u[j]? ↔ v[i]? = v[j]?)) : u = v := by
  apply List.ext_getElem? 
  intro i
  by_cases hi : i < u.length
  · obtain ⟨x, hx⟩ : ∃ x, u[i]? = some x := ⟨_, List.getElem?_eq_getElem hi⟩
    obtain ⟨y, hy⟩ : ∃ y, v[i]? = some y := ⟨_, List.getElem?_eq_getElem (by omega)⟩
    obtain ⟨a1, a2, a3⟩ := hu i x hx
    obtain ⟨b1, b2, b3⟩ := hv i y hy
    have e1 : v[i]? = v[x.toNat]? := (h i x.toNat hi (by omega)).1 (by rw [hx, a3])
    have e2 : u[i]? = u[y.toNat]? := (h i y.toNat hi (by omega)).2 (by rw [hy, b3])
    rw [hy] at e1
    rw [hx] at e2
    have c1 := hv x.toNat y e1.symm
    have c2 := hu y.toNat x e2.symm
    rw [hx, hy]
    congr 1; omega
  · rw [List.getElem?_eq_none (by omega), List.getElem?_eq_none (by omega)]
/-! Numbers told in another order. -/
structure Perm (n : Nat) (p q : Nat → Nat) : Prop where
  pl : ∀ i, i < n → p i < n
  ql : ∀ i, i < n → q i < n
  pq : ∀ i, i < n → p (q i) = i
  qp : ∀ i, i < n → q (p i) = i
theorem Perm.flip {n : Nat} {p q : Nat → Nat} (h : Perm n p q) : Perm n q p := ⟨h.ql, h.pl, h.qp, h.pq⟩
theorem Perm.inj {n : Nat} {p q : Nat → Nat} (h : Perm n p q) {i j : Nat} (hi : i < n) (hj : j < n) (e : p i = p j) : i = j := by
  rw [← h.qp i hi, ← h.qp j hj, e]
def relW (w : List Int) (q : Nat → Nat) (i j : Nat) : Bool := decide (w[q i]? = w[q j]?)
theorem relW_eqv (w : List Int) (q : Nat → Nat) (n : Nat) : Eqv n (relW w q) where
  refl := fun i _ => by simp [relW]
  symm := fun i j _ _ h => by simp only [relW, decide_eq_true_eq] at h ⊢; exact h.symm
  trans := fun i j k _ _ _ h1 h2 => by simp only [relW, decide_eq_true_eq] at h1 h2 ⊢; exact h1.trans h2
/-- A list, of numbers told in another order. -/
def turnW (n : Nat) (q : Nat → Nat) (w : List Int) : List Int := canL n (relW w q)
theorem turn_same {n : Nat} {q : Nat → Nat} {w : List Int} {i j : Nat} (hi : i < n) (hj : j < n) : (turnW n q w)[i]? = (turnW n q w)[j]? ↔ w[q i]? = w[q j]? := by
  rw [turnW, canL_same (relW_eqv w q n) hi hj]; simp [relW]
theorem turn_canon (n : Nat) (q : Nat → Nat) (w : List Int) : canon (turnW n q w) := canL_canon (relW_eqv w q n)
theorem turn_len (n : Nat) (q : Nat → Nat) (w : List Int) : (turnW n q w).length = n := canL_len n _
theorem turn_back {n : Nat} {p q : Nat → Nat} (h : Perm n p q) {w : List Int} (hw : canon w) (hl : w.length = n) : turnW n p (turnW n q w) = w := by
  refine canon_eq (turn_canon _ _ _) hw (by rw [turn_len, hl]) fun i j hi hj => ?_
  rw [turn_len] at hi hj
  rw [turn_same hi hj, turn_same (h.pl i hi) (h.pl j hj), h.qp i hi, h.qp j hj]
theorem cntP_filter (w : List Int) : ∀ k, cntP w k = ((List.range k).filter fun (i : Nat) => decide (w[i]? = some (i : Int))).length
  | 0 => rfl
  | k + 1 => by
    rw [cntP, cntP_filter w k, List.range_succ, List.filter_append, List.length_append]
    by_cases h : w[k]? = some (k : Int) <;> simp [h]
theorem turn_cnt_le {n : Nat} {p q : Nat → Nat} (h : Perm n p q) {w : List Int} (hw : canon w) (hl : w.length = n) : cntP w n ≤ cntP (turnW n q w) n := by
  rw [cntP_filter, cntP_filter]
  have hmem : ∀ i, i ∈ (List.range n).filter (fun (i : Nat) => decide (w[i]? = some (i : Int))) → i < n ∧ w[i]? = some (i : Int) := fun i hi => by
    rw [List.mem_filter, List.mem_range, decide_eq_true_eq] at hi; exact hi
  refine inj_len (fun i => leastN (relW w q) (p i)) (List.Pairwise.filter _ List.nodup_range) (fun i hi => ?_) (fun i hi j hj e => ?_)
  · obtain ⟨h1, h2⟩ := hmem i hi
    obtain ⟨a1, a2, a3⟩ := least_spec (relW_eqv w q n) (h.pl i h1)
    have hpl := h.pl i h1
    rw [List.mem_filter, List.mem_range, decide_eq_true_eq]
    refine ⟨by omega, ?_⟩
    rw [turnW, canL_get (by omega)]
    have := (least_same (relW_eqv w q n) (i := leastN (relW w q) (p i)) (j := p i) (by omega) hpl).2 ((relW_eqv w q n).symm _ _ hpl (by omega) a2)
    rw [this]
  · obtain ⟨h1, h2⟩ := hmem i hi
    obtain ⟨g1, g2⟩ := hmem j hj
    have := (least_same (relW_eqv w q n) (h.pl i h1) (h.pl j g1)).1 e
    simp only [relW, decide_eq_true_eq, h.qp i h1, h.qp j g1] at this
    rw [h2, g2] at this
    have := Option.some.inj this
    omega
theorem turn_cnt {n : Nat} {p q : Nat → Nat} (h : Perm n p q) {w : List Int} (hw : canon w) (hl : w.length = n) : cntP (turnW n q w) n = cntP w n := by
  have h1 := turn_cnt_le h hw hl
  have h2 := turn_cnt_le h.flip (turn_canon n q w) (turn_len n q w)
  rw [turn_back h hw hl] at h2
  omega
end Go.Proofs.Ytedihdnkalmoiaa

/- What is told of a shelf whose numbers and notes are told in another order, in plain Lean. -/
namespace Go.Proofs.Ytedihdnkalmoiaa
open Go.Gh
/-- A set of notes told from the last one on. -/
def revB : Nat → Nat → Nat
  | 0, _ => 0
  | k + 1, S => revB k (S / 2) + (S % 2) * 2 ^ k
theorem revB_lt : ∀ (k S : Nat), revB k S < 2 ^ k
  | 0, _ => by simp [revB]
  | k + 1, S => by
    have := revB_lt k (S / 2)
    have h2 : S % 2 < 2 := Nat.mod_lt _ (by omega)
    rw [revB, Nat.pow_succ]
    rcases (by omega : S % 2 = 0 ∨ S % 2 = 1) with e | e <;> rw [e] <;> omega
theorem revB_bit : ∀ (k S i : Nat), i < k → (revB k S).testBit i = S.testBit (k - 1 - i)
  | 0, _, _, h => absurd h (by omega)
  | k + 1, S, i, h => by
    have hlt := revB_lt k (S / 2)
    rw [revB]
    have e2 : S.testBit (k + 1 - 1 - i) = if i = k then decide (S % 2 = 1) else (S / 2).testBit (k - 1 - i) := by
      by_cases hik : i = k
      · subst hik
        rw [if_pos rfl, show i + 1 - 1 - i = 0 by omega, Nat.testBit_zero]
      · rw [if_neg hik, show k + 1 - 1 - i = (k - 1 - i) + 1 by omega, Nat.testBit_succ]
    rw [e2]
    rcases (by omega : S % 2 = 0 ∨ S % 2 = 1) with e | e
    · rw [e, Nat.zero_mul, Nat.add_zero]
      by_cases hik : i = k
      · subst hik; rw [if_pos rfl, Nat.testBit_lt_two_pow hlt]; rfl
      · rw [if_neg hik, revB_bit k _ i (by omega)]
    · rw [e, Nat.one_mul, Nat.add_comm]
      by_cases hik : i = k
      · subst hik; rw [if_pos rfl, Nat.testBit_two_pow_add_eq, Nat.testBit_lt_two_pow hlt]; rfl
      · rw [if_neg hik, Nat.testBit_two_pow_add_gt (by omega), revB_bit k _ i (by omega)]
theorem revB_high {k S i : Nat} (h : k ≤ i) : (revB k S).testBit i = false := Nat.testBit_lt_two_pow (Nat.lt_of_lt_of_le (revB_lt k S) (Nat.pow_le_pow_right (by omega) h))
theorem pop_rev_le {N S : Nat} (hN : N ≤ 12) (hS : S < 2 ^ N) : pop (revB N S) ≤ pop S := by
  rw [pop_cnt, pop_cnt, cntB, cntB]
  have hm : ∀ j, j ∈ (List.range 64).filter (fun j => (revB N S).testBit j) → j < N ∧ S.testBit (N - 1 - j) = true := fun j hj => by
    rw [List.mem_filter] at hj
    by_cases h : j < N
    · exact ⟨h, by rw [← revB_bit N S j h]; exact hj.2⟩
    · rw [revB_high (by omega)] at hj; exact absurd hj.2 (by simp)
  refine inj_len (fun j => N - 1 - j) (List.Pairwise.filter _ List.nodup_range) (fun j hj => ?_) (fun i hi j hj e => ?_)
  · obtain ⟨h1, h2⟩ := hm j hj
    rw [List.mem_filter, List.mem_range]
    exact ⟨by omega, h2⟩
  · obtain ⟨h1, _⟩ := hm i hi
    obtain ⟨g1, _⟩ := hm j hj
    have e' : N - 1 - i = N - 1 - j := e
    omega
/-- One shelf is another one, told in another order. -/
structure Rot (s x : Sh) (n : Nat) (p q : Nat → Nat) : Prop where
  perm : Perm n p q
  sl : s.sizes.length = n
  xl : x.sizes.length = n
  nn : x.notes.length = s.notes.length
  lo : x.lo = s.lo
  hi : x.hi = s.hi
  sz : ∀ i, i < n → x.sizes[p i]? = s.sizes[i]?
  nt : ∀ (k : Nat) m, s.notes[k]? = some m → 0 ≤ m.a ∧ m.a < n ∧ 0 ≤ m.b ∧ m.b < n ∧ x.notes[s.notes.length - 1 - k]? = some ⟨(p m.b.toNat : Nat), (p m.a.toNat : Nat), m.s⟩
variable {s x : Sh} {n : Nat} {p q : Nat → Nat}
theorem Rot.flip (h : Rot s x n p q) : Rot x s n q p where
  perm := h.perm.flip
  sl := h.xl
  xl := h.sl
  nn := h.nn.symm
  lo := h.lo.symm
  hi := h.hi.symm
  sz := fun i hi => by rw [← h.sz (q i) (h.perm.ql i hi), h.perm.pq i hi]
  nt := fun k m hk => by
    have hkl := (List.getElem?_eq_some_iff.1 hk).1
    have hnn := h.nn
    obtain ⟨y, hy⟩ : ∃ y, s.notes[s.notes.length - 1 - k]? = some y := ⟨_, List.getElem?_eq_getElem (by omega)⟩
    obtain ⟨h1, h2, h3, h4, h5⟩ := h.nt _ y hy
    rw [show s.notes.length - 1 - (s.notes.length - 1 - k) = k by omega, hk] at h5
    have h5 := Option.some.inj h5
    subst h5
    have ha := h.perm.pl y.a.toNat (by omega)
    have hb := h.perm.pl y.b.toNat (by omega)
    refine ⟨by simp, by simp only; omega, by simp, by simp only; omega, ?_⟩
    rw [hnn, hy]
    simp only [Int.toNat_natCast]
    rw [h.perm.qp _ (by omega), h.perm.qp _ (by omega)]
    congr 1
    cases y
    simp only [Nt.mk.injEq, and_true] at *
    omega
theorem sizes_all {s : Sh} {w : List Int} (h : sizesOk s w) (hl : w.length = s.sizes.length) {i k : Nat} {a b : Int} (hi : s.sizes[i]? = some a) (hk : s.sizes[k]? = some b) (he : w[i]? = w[k]?) : a = b ∨ a ≤ 0 ∨ b ≤ 0 := by
  have hil := (List.getElem?_eq_some_iff.1 hi).1
  have hkl := (List.getElem?_eq_some_iff.1 hk).1
  obtain ⟨u, hu⟩ : ∃ u, w[i]? = some u := ⟨_, List.getElem?_eq_getElem (by omega)⟩
  obtain ⟨v, hv⟩ : ∃ v, w[k]? = some v := ⟨_, List.getElem?_eq_getElem (by omega)⟩
  have huv : u = v := by rw [hu, hv] at he; exact Option.some.inj he
  rcases Nat.lt_trichotomy i k with hik | hik | hik
  · have := (sizeOk_iff hv hu hk hi).1 (h k (by omega) i hik) huv.symm
    omega
  · subst hik; rw [hi] at hk; exact .inl (Option.some.inj hk)
  · exact (sizeOk_iff hu hv hi hk).1 (h i (by omega) k hik) huv
theorem Rot.way (h : Rot s x n p q) {S : Nat} {w : List Int} (hw : w ∈ allM s S) : turnW n q w ∈ allM x (revB s.notes.length S) := by
  have hperm := h.perm
  have hsl := h.sl
  have hxl := h.xl
  obtain ⟨w1, w2, w3⟩ := mem_allM.1 hw
  obtain ⟨k1, k2, k3, k4⟩ := wayM_set.1 w3
  refine mem_allM.2 ⟨by rw [turn_len, hxl], turn_canon _ _ _, wayM_set.2 ⟨fun i hi k hk => ?_, fun i m hm hb => ?_, ?_, ?_⟩⟩
  · rw [turn_len] at hi
    obtain ⟨a, ha⟩ : ∃ a, x.sizes[i]? = some a := ⟨_, List.getElem?_eq_getElem (by omega)⟩
    obtain ⟨b, hb⟩ : ∃ b, x.sizes[k]? = some b := ⟨_, List.getElem?_eq_getElem (by omega)⟩
    obtain ⟨u, hu⟩ : ∃ u, (turnW n q w)[i]? = some u := ⟨_, List.getElem?_eq_getElem (by rw [turn_len]; exact hi)⟩
    obtain ⟨v, hv⟩ : ∃ v, (turnW n q w)[k]? = some v := ⟨_, List.getElem?_eq_getElem (by rw [turn_len]; omega)⟩
    rw [sizeOk_iff hu hv ha hb]
    intro e
    have he : w[q i]? = w[q k]? := (turn_same hi (by omega)).1 (by rw [hu, hv, e])
    refine sizes_all k1 (by omega) ?_ ?_ he
    · rw [← h.sz _ (hperm.ql i hi), hperm.pq i hi]; exact ha
    · rw [← h.sz _ (hperm.ql k (by omega)), hperm.pq k (by omega)]; exact hb
  · have hil := (List.getElem?_eq_some_iff.1 hm).1
    have hnn := h.nn
    rw [revB_bit _ _ _ (by omega)] at hb
    obtain ⟨y, hy⟩ : ∃ y, s.notes[s.notes.length - 1 - i]? = some y := ⟨_, List.getElem?_eq_getElem (by omega)⟩
    obtain ⟨h1, h2, h3, h4, h5⟩ := h.nt _ y hy
    rw [show s.notes.length - 1 - (s.notes.length - 1 - i) = i by omega, hm] at h5
    have h5 := Option.some.inj h5
    subst h5
    have hk := k2 _ y hy hb
    simp only [okNote, Int.toNat_natCast] at hk ⊢
    have ha := hperm.pl y.a.toNat (by omega)
    have hb' := hperm.pl y.b.toNat (by omega)
    have e : ((turnW n q w)[p y.b.toNat]? = (turnW n q w)[p y.a.toNat]?) ↔ (w[y.a.toNat]? = w[y.b.toNat]?) := by
      rw [turn_same hb' ha, hperm.qp _ (by omega), hperm.qp _ (by omega)]
      exact ⟨Eq.symm, Eq.symm⟩
    rw [decide_eq_decide.2 e]; exact hk
  · rw [turn_len, turn_cnt hperm w2 (by omega), h.lo]
    rw [show w.length = n by omega] at k3; exact k3
  · rw [turn_len, turn_cnt hperm w2 (by omega), h.hi]
    rw [show w.length = n by omega] at k4; exact k4
theorem Rot.le (h : Rot s x n p q) (S : Nat) : (allM s S).length ≤ (allM x (revB s.notes.length S)).length := by
  refine inj_len (turnW n q) (allM_nodup s S) (fun w hw => h.way hw) (fun w hw v hv e => ?_)
  have hsl := h.sl
  obtain ⟨w1, w2, _⟩ := mem_allM.1 hw
  obtain ⟨v1, v2, _⟩ := mem_allM.1 hv
  rw [← turn_back h.perm w2 (by omega), ← turn_back h.perm v2 (by omega), e]
theorem allM_bits {s : Sh} {a b : Nat} (h : ∀ i, i < s.notes.length → a.testBit i = b.testBit i) : allM s a = allM s b := allM_same rfl fun w _ => by
  rw [Bool.eq_iff_iff]
  exact ⟨wayM_mono fun i hi hb => by rw [h i hi]; exact hb, wayM_mono fun i hi hb => by rw [← h i hi]; exact hb⟩
theorem rev_rev {N S i : Nat} (h : i < N) : (revB N (revB N S)).testBit i = S.testBit i := by
  rw [revB_bit _ _ _ h, revB_bit _ _ _ (by omega)]
  congr 1; omega
theorem Rot.len (h : Rot s x n p q) (S : Nat) : (allM s S).length = (allM x (revB s.notes.length S)).length := by
  have h1 := h.le S
  have h2 := h.flip.le (revB s.notes.length S)
  rw [h.nn, allM_bits (s := s) (b := S) fun i hi => rev_rev hi] at h2
  omega
theorem Rot.all (h : Rot s x n p q) : allM x (revB s.notes.length (everyN s)) = wA x := allM_bits fun i hi => by
  rw [h.nn] at hi
  rw [revB_bit _ _ _ hi, every_bit (by omega), every_bit (by rw [h.nn]; exact hi)]
theorem Rot.mem (h : Rot s x n p q) {w : List Int} (hw : w ∈ wA s) : turnW n q w ∈ wA x := by
  have := h.way hw
  rwa [h.all] at this
theorem Rot.count (h : Rot s x n p q) : (wA s).length = (wA x).length := by
  have := h.len (everyN s)
  rwa [h.all] at this
theorem Rot.can (h : Rot s x n p q) (S : Nat) : canR s S = canR x (revB s.notes.length S) := by
  rw [canR, canR, h.len S]
theorem Rot.none (h : Rot s x n p q) : wA s = [] ↔ wA x = [] := by
  have := h.count
  rw [← List.length_eq_zero_iff, ← List.length_eq_zero_iff, this]
theorem Rot.err (h : Rot s x n p q) : errA s = errA x := by
  by_cases e : wA s = []
  · rw [errA_no e, errA_no (h.none.1 e)]
  · rw [errA_ok e, errA_ok fun e' => e (h.none.2 e')]
theorem Rot.lo_le (h : Rot s x n p q) (hne : wA s ≠ []) : loA x ≤ loA s ∧ hiA s ≤ hiA x := by
  have hne' : wA x ≠ [] := fun e => hne (h.none.2 e)
  have hsl := h.sl
  rw [loA, loA, hiA, hiA, if_neg hne, if_neg hne, if_neg hne', if_neg hne']
  have key : ∀ w, w ∈ wA s → manyI (turnW n q w) = manyI w := fun w hw => by
    obtain ⟨w1, w2, _⟩ := mem_wA.1 hw
    rw [manyI, manyI, turn_len, turn_cnt h.perm w2 (by omega), show w.length = n by omega]
  obtain ⟨w, hw, e⟩ := spanR_lo hne
  obtain ⟨v, hv, e'⟩ := spanR_hi hne
  rw [e, e', ← key w hw, ← key v hv]
  exact ⟨(spanR_in (h.mem hw)).1, (spanR_in (h.mem hv)).2⟩
theorem Rot.span (h : Rot s x n p q) : loA s = loA x ∧ hiA s = hiA x := by
  by_cases e : wA s = []
  · have e' := h.none.1 e
    rw [loA, loA, hiA, hiA, if_pos e, if_pos e, if_pos e', if_pos e']; exact ⟨rfl, rfl⟩
  · have e' : wA x ≠ [] := fun q => e (h.none.2 q)
    have h1 := h.lo_le e
    have h2 := h.flip.lo_le e'
    omega
theorem Rot.same_one (h : Rot s x n p q) {a b : Nat} (ha : a < n) (hb : b < n) (hne : wA s ≠ []) (c : Bool) (h1 : ∀ w ∈ wA s, eqAt a b w = c) : ∀ v ∈ wA x, eqAt (p a : Nat) (p b : Nat) v = c := fun v hv => by
  have hw := h.flip.mem hv
  have := h1 _ hw
  rw [← this]
  simp only [eqAt, Int.toNat_natCast]
  exact decide_eq_decide.2 (turn_same (q := p) ha hb).symm
theorem Rot.same (h : Rot s x n p q) {a b : Nat} (ha : a < n) (hb : b < n) : sameA s a b = sameA x (p a : Nat) (p b : Nat) := by
  by_cases e : wA s = []
  · rw [sameA_no e, sameA_no (h.none.1 e)]
  · have e' : wA x ≠ [] := fun q => e (h.none.2 q)
    have hpa := h.perm.pl a ha
    have hpb := h.perm.pl b hb
    have back : ∀ c : Bool, (∀ v ∈ wA x, eqAt (p a : Nat) (p b : Nat) v = c) → ∀ w ∈ wA s, eqAt a b w = c := fun c hc => by
      have := h.flip.same_one hpa hpb e' c hc
      rwa [h.perm.qp a ha, h.perm.qp b hb] at this
    rw [sameA_eq e, sameA_eq e']
    rcases sameR_range (a : Int) (b : Int) (wA s) with h1 | h1 | h1
    · rw [h1, (sameR_zero e').2 (h.same_one ha hb e false ((sameR_zero e).1 h1))]
    · rw [h1, sameR_one.2 (h.same_one ha hb e true (sameR_one.1 h1))]
    · rcases sameR_range ((p a : Nat) : Int) ((p b : Nat) : Int) (wA x) with h2 | h2 | h2
      · rw [(sameR_zero e).2 (back false ((sameR_zero e').1 h2))] at h1; cases h1
      · rw [sameR_one.2 (back true (sameR_one.1 h2))] at h1; cases h1
      · rw [h1, h2]
theorem rev_le {s : Sh} (hl : s.notes.length ≤ 12) (S : Nat) : revB s.notes.length S ≤ everyN s := by
  have := revB_lt s.notes.length S
  have := every2 (s := s)
  omega
theorem Rot.zero (h : Rot s x n p q) : canR s 0 = canR x 0 := by
  rw [h.can 0, canR, canR, allM_bits (s := x) (b := 0) fun i hi => by rw [h.nn] at hi; rw [revB_bit _ _ _ hi, zero_bit, zero_bit]]
theorem Rot.clashLe (h : Rot s x n p q) (hl : s.notes.length ≤ 12) (h0 : canR s 0 = true) (hne : wA s = []) : pop (clashR x) ≤ pop (clashR s) := by
  have hx0 : canR x 0 = true := by rw [← h.zero]; exact h0
  have hc : clashR s ≠ 0 := fun e => (clash_zero h0).1 e hne
  have hcx : clashR x ≠ 0 := fun e => (clash_zero hx0).1 e (h.none.1 hne)
  have h1 := clash_not h0 hc
  rw [h.can] at h1
  have hev : everyN x = everyN s := by simp only [everyN, h.nn]
  have h2 := clash_min hx0 hcx (t := revB s.notes.length (clashR s)) (by rw [hev]; exact rev_le hl _) h1
  have h3 := pop_rev_le (S := clashR s) hl (by have := clash_le (s := s); have := every2 (s := s); omega)
  omega
theorem Rot.clash (h : Rot s x n p q) (hl : s.notes.length ≤ 12) : pop (clashR s) = pop (clashR x) := by
  cases h0 : canR s 0 with
  | false => rw [(clash_none h0).1, (clash_none (by rw [← h.zero]; exact h0)).1]
  | true =>
    have hx0 : canR x 0 = true := by rw [← h.zero]; exact h0
    by_cases hne : wA s = []
    · have h1 := h.clashLe hl h0 hne
      have h2 := h.flip.clashLe (by rw [h.nn]; exact hl) hx0 (h.none.1 hne)
      omega
    · rw [(clash_zero h0).2 hne, (clash_zero hx0).2 fun e => hne (h.none.2 e)]
theorem Rot.dropLe (h : Rot s x n p q) (hl : s.notes.length ≤ 12) (h0 : canR s 0 = true) : pop (dropR x) ≤ pop (dropR s) := by
  have hx0 : canR x 0 = true := by rw [← h.zero]; exact h0
  have h1 := drop_can hl h0
  have hev : everyN x = everyN s := by simp only [everyN, h.nn]
  have hdl := drop_le (s := s)
  have hel := every_lt2 hl
  have hrl := rev_le hl (dropR s)
  have h2 : canR x (lessS (everyN x) (revB s.notes.length (dropR s))) = true := by
    rw [h.can] at h1
    rw [canR, allM_bits (s := x) (b := revB s.notes.length (lessS (everyN s) (dropR s))) fun i hi => ?_]
    · exact h1
    · rw [h.nn] at hi
      rw [hev, lessS_bit (by omega) (by omega), revB_bit _ _ _ hi, revB_bit _ _ _ hi, lessS_bit (by omega) (by omega), every_bit hi, every_bit (by omega)]
  have h3 := drop_min (by rw [h.nn]; exact hl) hx0 (t := revB s.notes.length (dropR s)) (by rw [hev]; exact hrl) h2
  have h4 := pop_rev_le (S := dropR s) hl (by have := every2 (s := s); omega)
  omega
theorem Rot.drop (h : Rot s x n p q) (hl : s.notes.length ≤ 12) : pop (dropR s) = pop (dropR x) := by
  cases h0 : canR s 0 with
  | false => rw [(clash_none h0).2.1, (clash_none (by rw [← h.zero]; exact h0)).2.1]
  | true =>
    have h1 := h.dropLe hl h0
    have h2 := h.flip.dropLe (by rw [h.nn]; exact hl) (by rw [← h.zero]; exact h0)
    omega
theorem Rot.idle (h : Rot s x n p q) (hl : s.notes.length ≤ 12) {k : Nat} (hk : k < s.notes.length) : (idleA s).testBit k = (idleA x).testBit (s.notes.length - 1 - k) := by
  by_cases e : wA s = []
  · rw [idleA, idleA, if_pos e, if_pos (h.none.1 e), zero_bit, zero_bit]
  · have hnn := h.nn
    rw [idleA_bit e hk, idleA_bit (fun q => e (h.none.2 q)) (by omega), ← h.count, h.len (everyN s - 2 ^ k),
      allM_bits (s := x) (a := revB s.notes.length (everyN s - 2 ^ k)) (b := everyN x - 2 ^ (s.notes.length - 1 - k)) fun i hi => ?_]
    rw [hnn] at hi
    rw [revB_bit _ _ _ hi, less_bit hl hk _ (by omega), less_bit (by omega) (by omega) _ (by omega)]
    congr 1
    exact decide_eq_decide.2 (by omega)
end Go.Proofs.Ytedihdnkalmoiaa

/- The shelf whose numbers are turned round and whose notes are told from the last one on, in plain Lean. -/
namespace Go.Proofs.Ytedihdnkalmoiaa
open Go.Gh
def turnP (n tu i : Nat) : Nat := (i + tu) % n
def turnQ (n tu i : Nat) : Nat := (i + (n - tu % n)) % n
theorem turn_perm {n : Nat} (hn : 0 < n) (tu : Nat) : Perm n (turnP n tu) (turnQ n tu) := by
  have ht := Nat.mod_lt tu hn
  have key : ∀ i, i < n → turnP n tu i = if i + tu % n < n then i + tu % n else i + tu % n - n := fun i hi => by
    rw [turnP, Nat.add_mod, Nat.mod_eq_of_lt hi]
    split
    · rename_i h; exact Nat.mod_eq_of_lt h
    · rw [Nat.mod_eq_sub_mod (by omega), Nat.mod_eq_of_lt (by omega)]
  have key2 : ∀ i, i < n → turnQ n tu i = if i + (n - tu % n) < n then i + (n - tu % n) else i + (n - tu % n) - n := fun i hi => by
    rw [turnQ]
    split
    · rename_i h; exact Nat.mod_eq_of_lt h
    · rw [Nat.mod_eq_sub_mod (by omega), Nat.mod_eq_of_lt (by omega)]
  refine ⟨fun i _ => Nat.mod_lt _ hn, fun i _ => Nat.mod_lt _ hn, fun i hi => ?_, fun i hi => ?_⟩
  · have hq : turnQ n tu i < n := Nat.mod_lt _ hn
    rw [key _ hq, key2 i hi]
    split <;> split <;> omega
  · have hp : turnP n tu i < n := Nat.mod_lt _ hn
    rw [key2 _ hp, key i hi]
    split <;> split <;> omega
def xzF (zs : List Int) (n tu : Nat) : Nat → List Int
  | 0 => List.replicate n 0
  | k + 1 => (xzF zs n tu k).set (turnP n tu k) (zs.getD k 0)
theorem xzF_len (zs : List Int) (n tu : Nat) : ∀ k, (xzF zs n tu k).length = n
  | 0 => by simp [xzF]
  | k + 1 => by rw [xzF, List.length_set, xzF_len zs n tu k]
theorem xzF_succ {zs : List Int} {n tu k : Nat} {z : Int} (h : zs[k]? = some z) : xzF zs n tu (k + 1) = (xzF zs n tu k).set (turnP n tu k) z := by
  rw [xzF, List.getD_eq_getElem?_getD, h]; rfl
theorem xzF_get {zs : List Int} {n tu : Nat} (hn : 0 < n) (hl : zs.length = n) : ∀ k, k ≤ n → ∀ i, i < k → (xzF zs n tu k)[turnP n tu i]? = zs[i]?
  | 0, _, i, h => absurd h (by omega)
  | k + 1, hk, i, h => by
    have hp := turn_perm hn tu
    obtain ⟨z, hz⟩ : ∃ z, zs[k]? = some z := ⟨_, List.getElem?_eq_getElem (by omega)⟩
    rw [xzF_succ hz]
    by_cases e : i = k
    · subst e
      rw [List.getElem?_set_self (by rw [xzF_len]; exact hp.pl i (by omega)), hz]
    · rw [List.getElem?_set_ne (fun q => e (hp.inj (by omega) (by omega) q.symm))]
      exact xzF_get hn hl k (by omega) i (by omega)
def turnN (n tu : Nat) (y : Nt) : Nt := ⟨(turnP n tu y.b.toNat : Nat), (turnP n tu y.a.toNat : Nat), y.s⟩
def xnF (l : List Nt) (n tu : Nat) : Nat → List Nt
  | 0 => []
  | k + 1 => xnF l n tu k ++ match l[l.length - 1 - k]? with | some y => [turnN n tu y] | none => []
theorem xnF_succ {l : List Nt} {n tu k : Nat} {y : Nt} (h : l[l.length - 1 - k]? = some y) : xnF l n tu (k + 1) = xnF l n tu k ++ [turnN n tu y] := by
  rw [xnF, h]
theorem xnF_len {l : List Nt} {n tu : Nat} : ∀ k, k ≤ l.length → (xnF l n tu k).length = k
  | 0, _ => rfl
  | k + 1, h => by
    obtain ⟨y, hy⟩ : ∃ y, l[l.length - 1 - k]? = some y := ⟨_, List.getElem?_eq_getElem (by omega)⟩
    rw [xnF_succ hy, List.length_append, xnF_len k (by omega)]; rfl
theorem xnF_get {l : List Nt} {n tu : Nat} : ∀ k, k ≤ l.length → ∀ i y, i < k → l[l.length - 1 - i]? = some y → (xnF l n tu k)[i]? = some (turnN n tu y)
  | 0, _, i, _, h, _ => absurd h (by omega)
  | k + 1, hk, i, y, h, hy => by
    obtain ⟨z, hz⟩ : ∃ z, l[l.length - 1 - k]? = some z := ⟨_, List.getElem?_eq_getElem (by omega)⟩
    have hl := xnF_len (l := l) (n := n) (tu := tu) k (by omega)
    rw [xnF_succ hz]
    by_cases e : i = k
    · subst e
      rw [hy] at hz; cases hz
      rw [List.getElem?_append_right (by omega), hl]; simp
    · rw [List.getElem?_append_left (by omega)]
      exact xnF_get k (by omega) i y (by omega) hy
def turnS (s : Sh) (tu : Nat) : Sh := ⟨s.num, xzF s.sizes s.num.toNat tu s.num.toNat, s.lo, s.hi, xnF s.notes s.num.toNat tu s.notes.length⟩
theorem turn_rot {s : Sh} (hv : s.valid = true) (hn : 0 < s.num) (tu : Nat) : Rot s (turnS s tu) s.num.toNat (turnP s.num.toNat tu) (turnQ s.num.toNat tu) where
  perm := turn_perm (by omega) tu
  sl := by have := valid_num hv; omega
  xl := xzF_len _ _ _ _
  nn := xnF_len _ (Nat.le_refl _)
  lo := rfl
  hi := rfl
  sz := fun i hi => xzF_get (by omega) (by have := valid_num hv; omega) _ (Nat.le_refl _) i hi
  nt := fun k m hk => by
    have hkl := (List.getElem?_eq_some_iff.1 hk).1
    have h1 := valid_note hv hk
    have h2 := valid_num hv
    refine ⟨h1.1, by omega, h1.2.2.1, by omega, ?_⟩
    exact xnF_get _ (Nat.le_refl _) _ m (by omega) (by rw [show s.notes.length - 1 - (s.notes.length - 1 - k) = k by omega]; exact hk)
theorem turn_valid {s : Sh} (hv : s.valid = true) (hn : 0 < s.num) (tu : Nat) : (turnS s tu).valid = true := by
  have hr := turn_rot hv hn tu
  have h2 := valid_num hv
  have hxl := hr.xl
  have hnn := hr.nn
  have hp := hr.perm
  simp only [Sh.valid, Sh.head, Bool.and_eq_true, decide_eq_true_eq, Bool.not_eq_eq_eq_not, Bool.not_true, decide_eq_false_iff_not]
  refine ⟨⟨?_, List.all_eq_true.2 fun z hz => ?_⟩, List.all_eq_true.2 fun m hm => ?_⟩
  · show ((((((0 ≤ s.num ∧ s.num ≤ 8) ∧ ((turnS s tu).sizes.length : Int) = s.num) ∧ ¬ s.lo < 0) ∧ ¬ s.hi < s.lo) ∧ ¬ 8 < s.hi) ∧ ¬ (12 : Int) < ((turnS s tu).notes.length : Int))
    omega
  · obtain ⟨j, hj⟩ := List.getElem?_of_mem hz
    have hjl := (List.getElem?_eq_some_iff.1 hj).1
    have := hr.sz (turnQ s.num.toNat tu j) (hp.ql j (by omega))
    rw [hp.pq j (by omega), hj] at this
    have := okS_of hv this.symm
    simp only [okS, Bool.and_eq_true, decide_eq_true_eq]; omega
  · obtain ⟨j, hj⟩ := List.getElem?_of_mem hm
    have h3 := hr.flip.nt j m hj
    obtain ⟨a1, a2, a3, a4, a5⟩ := h3
    have h4 := valid_note hv a5
    simp only [okN, Bool.and_eq_true, decide_eq_true_eq]
    refine ⟨⟨⟨a1, ?_⟩, ⟨a3, ?_⟩⟩, nd_t fun e => ?_⟩
    · show m.a ≤ s.num - 1; omega
    · show m.b ≤ s.num - 1; omega
    · exact h4.2.2.2.2 (by simp only [e])
end Go.Proofs.Ytedihdnkalmoiaa

/- One cell of an object read otherwise; an element of a slice that nobody turns, as an object. -/
namespace Go.Gh
open Go.RowKit
variable {Pg : Program} {E : Env Pg} {C : Cx E} {r : Option Nat} {ops : Array Oper} {Q : GE → Sg E → Prop} {l l' : List (Nat × G)} {m m' : List (Nat × Ob)} {A : E.α} {df : List GD} {σ σ0 : Sg E} {c : Code} {rest : List Oper} {cp : Prop}

theorem Le.convCell {id off fz : Nat} {cs : List G} {g g' : G} {s : Sp} {q : Prop} (ho : σ.h id = .cells cs fz) (hc : cs[off]? = some g) (hcv : cvS σ.h s g = some (q, g')) (hq : q) (h1 : g'.one = true) :
    Le C σ { σ with h := upd σ.h id (.cells (cs.set off g') fz) } := fun a w ⟨π, ρ, S, H⟩ => by
  have hob := H.rel.objs id
  simp only [ho] at hob
  obtain ⟨vs, et, hw, hv, hone, hf, hn⟩ := hob
  have hnew := VRels_setcell (g' := g') hv hc fun v hr => cvS_ok H.rel hcv hq hr
  have hrefl : upd ρ id (ρ id) = ρ := by funext j; unfold upd; split <;> simp_all
  have T := H.rel.turn (w' := w) (π' := π) id (ρ id) (.cells (cs.set off g') fz) (Nat.le_refl _) rfl rfl rfl (fun b _ _ => ⟨rfl, rfl⟩) (PM.le_refl _) H.rel.know (fun _ _ _ => .inl rfl) ?_ (fun b hb => ?_)
  · rw [hrefl] at T
    have hne : ∀ i, σ.h i ≠ .none → upd σ.h id (Ob.cells (cs.set off g') fz) i ≠ .none := fun i hi => by
      simp only [upd]; split
      · simp
      · exact hi
    refine ⟨π, ρ, S, H.putObj T.1 T.2 (fun _ _ => .inl rfl) (fun _ _ => .inl rfl) hne fun j i hm => ?_⟩
    simp only [upd] at hm
    split at hm
    · refine hne i ?_
      simp only [Ob.men] at hm
      obtain ⟨x, hx, hxm⟩ := mens_true.1 hm
      rcases List.mem_or_eq_of_mem_set hx with hx | hx
      · exact H.wfh id i (by rw [ho]; exact mens_true.2 ⟨x, hx, hxm⟩)
      · subst hx
        exact cvS_men H.wfh hcv (fun i hi => H.wfh id i (by rw [ho]; exact mens_true.2 ⟨g, List.mem_of_getElem? hc, hi⟩)) i hxm
    · exact hne i (H.wfh j i hm)
  · rw [hrefl]
    refine ⟨vs, et, hw, hnew, fun c hc' => ?_, hf, hn⟩
    rcases List.mem_or_eq_of_mem_set hc' with h | h
    · exact hone c h
    · subst h; exact h1
  · rw [hrefl] at hb
    exact .inl (by rw [ho]; exact hb)
theorem gc_cell (id off : Nat) (s : Sp) {cs cs2 : List G} {g g' : G} {fz : Nat} (ho : mkHp m id = .cells cs fz) (hc : cs[off]? = some g) (hcv : cvS (mkHp m) s g = some (cp, g')) (hq : cp) (h1 : g'.one = true) (he : cs.set off g' = cs2)
    (k : gwp C r c Q (sg l ((id, .cells cs2 fz) :: m) A df)) : gwp C r c Q (sg l m A df) :=
  gwp_le (Le.convCell (σ := sg l m A df) ho hc hcv hq h1) (by subst he; exact k)
theorem go_cell {lst : List Oper} (id off : Nat) (s : Sp) {cs cs2 : List G} {g g' : G} {fz : Nat} (ho : mkHp m id = .cells cs fz) (hc : cs[off]? = some g) (hcv : cvS (mkHp m) s g = some (cp, g')) (hq : cp) (h1 : g'.one = true) (he : cs.set off g' = cs2)
    (k : gops C r ops Q lst (sg l ((id, .cells cs2 fz) :: m) A df)) : gops C r ops Q lst (sg l m A df) :=
  gops_le (Le.convCell (σ := sg l m A df) ho hc hcv hq h1) (by subst he; exact k)
/-- A nil slice in a register read as an object of no elements. -/
theorem Le.adoptReg {t d : Nat} (e : TypeId) (sz : Nat) (fl : Bool) (hr : σ.fr t = .nils) (hd : σ.h d = .none) (hd2 : C.lim ≤ d) :
    Le C σ { σ with h := upd σ.h d (.arr e sz [] fl), fr := upd σ.fr t (.own d 0) } := fun a w ⟨π, ρ, S, H⟩ => by
  have hdm : ∀ j, (σ.h j).men d = false := fun j => by
    cases hm : (σ.h j).men d with
    | false => rfl
    | true => exact absurd hd (H.wfh j d hm)
  obtain ⟨U1, U2⟩ := H.rel.newNil d hd hdm e sz fl
  have hne : ∀ i, σ.h i ≠ .none → upd σ.h d (Ob.arr e sz [] fl) i ≠ .none := fun i hi => by
    simp only [upd]; split
    · simp
    · exact hi
  have H1 : St C { σ with h := upd σ.h d (.arr e sz [] fl) } a w π (upd ρ d ⟨0, .slice none 0 0, 0⟩) S := by
    refine H.putObj U1 U2 (fun j hj => ?_) (fun j hj => ?_) hne (fun j i hm => ?_)
    · have : j ≠ d := fun e => hj (e ▸ hd)
      rw [upd_other _ _ this]; exact .inl rfl
    · rw [upd_other _ _ (by omega)]; exact .inl rfl
    · simp only [upd] at hm
      split at hm
      · simp [Ob.men] at hm
      · exact hne i (H.wfh j i hm)
  refine ⟨π, _, S, H1.size, fun k => ?_, H1.defs, H1.rel, H1.trans, H1.step, fun k i hm => ?_, H1.wfh, H1.wfd⟩
  · have hv := H1.vals k
    show VRel π _ E.yv (upd σ.fr t (.own d 0) k) _
    simp only [upd]
    split
    · rename_i e; subst e
      replace hv : VRel π _ E.yv (σ.fr k) _ := hv
      rw [hr] at hv
      simp only [VRel] at hv ⊢
      rw [hv, upd_same]
      exact ⟨Nat.le_refl _, fun _ => rfl⟩
    · exact hv
  · replace hm : (upd σ.fr t (.own d 0) k).men i = true := hm
    simp only [upd] at hm
    split at hm
    · simp only [G.men, beq_iff_eq] at hm
      subst hm
      show upd σ.h d (Ob.arr e sz [] fl) d ≠ .none
      rw [upd_same]; simp
    · exact H1.wfr k i hm
theorem gc_adoptR (t d : Nat) (e : TypeId) (sz : Nat) (fl : Bool) (hr : mkFr l t = .nils) (hd : mkHp m d = .none) (hd2 : C.lim ≤ d)
    (k : gwp C r c Q (sg ((t, .own d 0) :: l) ((d, .arr e sz [] fl) :: m) A df)) : gwp C r c Q (sg l m A df) :=
  gwp_le (Le.adoptReg (σ := sg l m A df) e sz fl hr hd hd2) k
/-- A region's ways brought together. -/
theorem gwp_cut {l1 : List (Nat × G)} {m1 : List (Nat × Ob)} {x y : Code} {Q2 : GE → Sg E → Prop} (h1 : gwp C r x (gthen (fun σ' => Le C σ' (sg l1 m1 A df)) Q) (sg l m A df)) (h2 : gwp C r y Q2 (sg l1 m1 A df)) : gwp C r x (gthen (gwp C r y Q2) Q) (sg l m A df) :=
  gwp_mono h1 fun e σ' k => by
    cases e with
    | normal => exact gwp_le k h2
    | _ => exact k
/-! A slice of slices that is filled one by one: what is done, what is being filled, what is to come. -/
def toldC (done : List P) (x : List G) (m : Nat) : List G := done.map .p ++ (x ++ List.replicate m .nils)
theorem idls_app : ∀ (a b : List G), G.idls (a ++ b) = G.idls a ++ G.idls b
  | [], b => by simp [G.idls]
  | g :: a, b => by simp [G.idls, idls_app a b]
theorem idls_rep : ∀ m, G.idls (List.replicate m .nils) = []
  | 0 => rfl
  | m + 1 => by rw [List.replicate_succ]; simp [G.idls, G.idl, idls_rep m]
theorem idls_told (done : List P) (x : List G) (m : Nat) : G.idls (toldC done x m) = G.idls x := by
  rw [toldC, idls_app, idls_app, idls_rep, idls_p]; simp
theorem idls_nil1 : G.idls ([] : List G) = [] := rfl
theorem told_len (done : List P) (x : List G) (m : Nat) : (toldC done x m).length = done.length + (x.length + m) := by simp [toldC]
theorem told_get {done : List P} {x : G} {m a : Nat} (h : done.length = a) : (toldC done [x] m)[a]? = some x := by
  subst h
  rw [toldC, List.getElem?_append_right (by simp)]; simp
theorem told_set {done : List P} {x : G} {m a : Nat} (h : done.length = a) (y : G) : (toldC done [x] m).set a y = toldC done [y] m := by
  subst h
  rw [toldC, List.set_append_right _ _ (by simp)]; simp [toldC]
theorem told_next (done : List P) (m : Nat) : toldC done [] (m + 1) = toldC done [.nils] m := by simp [toldC, List.replicate_succ]
theorem told_done (done : List P) (v : P) (m : Nat) : toldC done [.p v] m = toldC (done ++ [v]) [] m := by simp [toldC]
theorem told_end (done : List P) : toldC done [] 0 = done.map .p := by simp [toldC]
theorem told_make (n : Nat) : ((List.range (n * 1)).map fun i => [G.nils].getD (i % 1) .undef) = toldC [] [] n := by
  rw [toldC, List.map_nil, List.nil_append, List.nil_append, List.eq_replicate_iff]
  refine ⟨by simp, fun g hg => ?_⟩
  simp only [List.mem_map, List.mem_range] at hg
  obtain ⟨i, _, rfl⟩ := hg
  have : i % 1 = 0 := Nat.mod_one i
  rw [this]; rfl
end Go.Gh

/- A slice of the call's own that nobody turns from now on; ways brought together under a name. -/
namespace Go.Gh
open Go.RowKit
variable {Pg : Program} {E : Env Pg} {C : Cx E} {r : Option Nat} {ops : Array Oper} {Q : GE → Sg E → Prop} {l l' : List (Nat × G)} {m m' : List (Nat × Ob)} {A : E.α} {df : List GD} {σ σ0 : Sg E} {c : Code} {rest : List Oper} {cp : Prop}

theorem ownsRow_cell {w : World} {base : Nat} {e : TypeId} {size n : Nat} {v : Value} {xs : List Value} {b : Nat} (h : w.ownsRow base e size v n xs) (hb : capBlock v = some b) {j : Nat} {u : Value} (hj : xs[j]? = some u) : w.cell? ⟨b, j, none⟩ = some u := by
  obtain ⟨h1, h2⟩ := h
  rcases h2 with ⟨h2, _⟩ | ⟨g, cap, cur, hv, _, hh, _, _, _, ht⟩
  · rw [h2] at hb; simp [capBlock] at hb
  · have := capBlock_own hb
    rw [hv] at this
    simp only [Value.ownBlock, Option.some.injEq] at this
    subst this
    obtain ⟨curl⟩ := cur
    rw [cell_of_block hh]
    rw [← ht, List.getElem?_take] at hj
    split at hj
    · exact hj
    · cases hj
theorem Le.freezeArr {id : Nat} {e : TypeId} {sz : Nat} {xs : List P} (ho : σ.h id = .arr e sz xs false) : Le C σ { σ with h := upd σ.h id (.arr e sz xs true) } := fun a w ⟨π, ρ, S, H⟩ => by
  have hob := H.rel.objs id
  rw [ho] at hob
  obtain ⟨cs, hrow, hlen, hps, hsz, hone, hcap⟩ := hob
  have hrefl : upd ρ id (ρ id) = ρ := by funext j; unfold upd; split <;> simp_all
  have hne : ∀ i, σ.h i ≠ .none → upd σ.h id (Ob.arr e sz xs true) i ≠ .none := fun i hi => by
    simp only [upd]; split
    · simp
    · exact hi
  have fin : ∀ π', Rel E π' ρ (upd σ.h id (.arr e sz xs true)) σ.A S w → Trans (Own ρ σ.h S) w π (Own ρ (upd σ.h id (.arr e sz xs true)) S) w π' → Holds C { σ with h := upd σ.h id (.arr e sz xs true) } a w := fun π' R' T' => by
    refine ⟨π', ρ, S, H.putObj R' T' (fun _ _ => .inl rfl) (fun _ _ => .inl rfl) hne fun j i hm => ?_⟩
    simp only [upd] at hm
    split at hm
    · simp [Ob.men] at hm
    · exact hne i (H.wfh j i hm)
  cases hb : capBlock (ρ id).v with
  | none =>
    have T := H.rel.turn (w' := w) (π' := π) id (ρ id) (.arr e sz xs true) (Nat.le_refl _) rfl rfl rfl (fun b _ _ => ⟨rfl, rfl⟩) (PM.le_refl _) H.rel.know (fun _ _ _ => .inl rfl) ?_ (fun b hb' => ?_)
    · rw [hrefl] at T
      exact fin π T.1 T.2
    · rw [hrefl]
      exact ⟨cs, hrow, hlen, hps, hsz, hone, fun b hb' => by rw [hb] at hb'; cases hb'⟩
    · rw [hrefl] at hb'
      simp only [live] at hb'
      rw [hb] at hb'; cases hb'
  | some b =>
    have hown : w.ownsRow 0 e sz (ρ id).v xs.length cs := by
      rcases hrow with ⟨_, _, a, _, hv⟩ | ⟨h, _⟩
      · rw [hv] at hb; cases a <;> simp [capBlock] at hb
      · exact h
    have hnone := (hcap b hb).2
    let π' : PM := fun b' o => if b' = b then cs[o]? else π b' o
    have hle : PM.le π π' := fun b' o v hk => by
      simp only [π']
      split
      · rename_i e; subst e
        rw [hnone o (.inl rfl)] at hk; cases hk
      · exact hk
    have T := H.rel.turn (w' := w) (π' := π') id (ρ id) (.arr e sz xs true) (Nat.le_refl _) rfl rfl rfl (fun b' _ hne' => ⟨rfl, ?_⟩) hle (fun b' o v hk => ?_) (fun _ _ _ => .inl rfl) ?_ (fun b' hb' => ?_)
    · rw [hrefl] at T
      exact fin π' T.1 T.2
    · funext o
      simp only [π']
      rw [if_neg]
      intro e'
      exact hne' (by rw [ho]; simp [live, hb, e'])
    · simp only [π'] at hk
      split at hk
      · rename_i e'; subst e'
        exact ownsRow_cell hown hb hk
      · exact H.rel.know _ _ _ hk
    · rw [hrefl]
      refine ⟨cs, .inr ⟨hown, b, hb⟩, hlen, hps.mono hle, hsz, hone, fun b' hb' => ?_⟩
      rw [hb] at hb'; cases hb'
      refine ⟨fun _ j u hu => by simp only [π', if_true]; exact hu, fun j hj => ?_⟩
      simp only [π', if_true]
      rcases hj with hj | hj
      · cases hj
      · rw [List.getElem?_eq_none_iff]; exact hj
    · rw [hrefl] at hb'
      rw [ho]; exact .inl hb'
theorem gc_arr (id : Nat) {e : TypeId} {sz : Nat} {xs : List P} (ho : mkHp m id = .arr e sz xs false) (k : gwp C r c Q (sg l ((id, .arr e sz xs true) :: m) A df)) : gwp C r c Q (sg l m A df) :=
  gwp_le (Le.freezeArr (σ := sg l m A df) ho) k
theorem go_arr {lst : List Oper} (id : Nat) {e : TypeId} {sz : Nat} {xs : List P} (ho : mkHp m id = .arr e sz xs false) (k : gops C r ops Q lst (sg l ((id, .arr e sz xs true) :: m) A df)) : gops C r ops Q lst (sg l m A df) :=
  gops_le (Le.freezeArr (σ := sg l m A df) ho) k
/-- A part of an array that nobody turns, in a cell, as a list. -/
theorem Le.fslCell {i1 o1 f1 id off len fz : Nat} {ds cs : List G} {ps : List P} (hi : σ.h i1 = .cells ds f1) (hc : ds[o1]? = some (.fsl id off len)) (ho : σ.h id = .cells cs fz) (h1 : off + len ≤ fz) (hps : (cs.drop off).take len = ps.map .p) (h2 : ps.length = len) (h3 : ∀ p ∈ ps, p.one = true) :
    Le C σ { σ with h := upd σ.h i1 (.cells (ds.set o1 (.p (.list ps))) f1) } := fun a w ⟨π, ρ, S, H⟩ => by
  have hob := H.rel.objs i1
  simp only [hi] at hob
  obtain ⟨vs, et, hw, hv, hone, hf, hn⟩ := hob
  have hnew := VRels_setcell (g' := .p (.list ps)) hv hc fun v hr => by
    simp only [VRel] at hr
    obtain ⟨cap, hv, hcap⟩ := hr
    have hr := ref_row H.rel ho h1
    rw [hps] at hr
    simp only [VRel, PRel]
    refine ⟨_, _, _, hv, h2.symm, hcap, .inr ⟨_, _, rfl, PElems.row.2 ?_⟩⟩
    rw [flat_one h3]
    refine PRow.mk fun j c hc => ?_
    obtain ⟨u, h1, h2, h3⟩ := hr.get j (.p c) (by rw [List.getElem?_map, hc]; rfl)
    exact ⟨u, h1, by simpa only [VRel] using h2, h3⟩
  have hrefl : upd ρ i1 (ρ i1) = ρ := by funext j; unfold upd; split <;> simp_all
  have T := H.rel.turn (w' := w) (π' := π) i1 (ρ i1) (.cells (ds.set o1 (.p (.list ps))) f1) (Nat.le_refl _) rfl rfl rfl (fun b _ _ => ⟨rfl, rfl⟩) (PM.le_refl _) H.rel.know (fun _ _ _ => .inl rfl) ?_ (fun b hb => ?_)
  · rw [hrefl] at T
    have hne : ∀ i, σ.h i ≠ .none → upd σ.h i1 (Ob.cells (ds.set o1 (.p (.list ps))) f1) i ≠ .none := fun i hi => by
      simp only [upd]; split
      · simp
      · exact hi
    refine ⟨π, ρ, S, H.putObj T.1 T.2 (fun _ _ => .inl rfl) (fun _ _ => .inl rfl) hne fun j i hm => ?_⟩
    simp only [upd] at hm
    split at hm
    · refine hne i ?_
      simp only [Ob.men] at hm
      obtain ⟨x, hx, hxm⟩ := mens_true.1 hm
      rcases List.mem_or_eq_of_mem_set hx with hx | hx
      · exact H.wfh i1 i (by rw [hi]; exact mens_true.2 ⟨x, hx, hxm⟩)
      · subst hx; simp [G.men] at hxm
    · exact hne i (H.wfh j i hm)
  · rw [hrefl]
    refine ⟨vs, et, hw, hnew, fun c hc' => ?_, hf, hn⟩
    rcases List.mem_or_eq_of_mem_set hc' with h | h
    · exact hone c h
    · subst h; rfl
  · rw [hrefl] at hb
    exact .inl (by rw [hi]; exact hb)
theorem go_fslC {lst : List Oper} {i1 o1 f1 off len fz id : Nat} {ds ds2 cs : List G} {ps : List P} (hi : mkHp m i1 = .cells ds f1) (hc : ds[o1]? = some (.fsl id off len)) (ho : mkHp m id = .cells cs fz) (h1 : off + len ≤ fz) (hps : (cs.drop off).take len = ps.map .p) (h2 : ps.length = len) (h3 : ∀ p ∈ ps, p.one = true) (he : ds.set o1 (.p (.list ps)) = ds2)
    (k : gops C r ops Q lst (sg l ((i1, .cells ds2 f1) :: m) A df)) : gops C r ops Q lst (sg l m A df) := gops_le (Le.fslCell (σ := sg l m A df) hi hc ho h1 hps h2 h3) (by subst he; exact k)
theorem gc_fslC {i1 o1 f1 off len fz id : Nat} {ds ds2 cs : List G} {ps : List P} (hi : mkHp m i1 = .cells ds f1) (hc : ds[o1]? = some (.fsl id off len)) (ho : mkHp m id = .cells cs fz) (h1 : off + len ≤ fz) (hps : (cs.drop off).take len = ps.map .p) (h2 : ps.length = len) (h3 : ∀ p ∈ ps, p.one = true) (he : ds.set o1 (.p (.list ps)) = ds2)
    (k : gwp C r c Q (sg l ((i1, .cells ds2 f1) :: m) A df)) : gwp C r c Q (sg l m A df) := gwp_le (Le.fslCell (σ := sg l m A df) hi hc ho h1 hps h2 h3) (by subst he; exact k)
theorem gc_freezeK (id n : Nat) {cs : List G} {fz : Nat} (ho : mkHp m id = .cells cs fz) (hn : fz ≤ n) (hn2 : n ≤ cs.length) (h1 : allOne (cs.take n) = true) (k : gwp C r c Q (sg l ((id, .cells cs n) :: m) A df)) : gwp C r c Q (sg l m A df) := gwp_le (Le.freezeK (σ := sg l m A df) ho hn hn2 h1) k
/-- A piece of code's ways brought together, under a name for what they differ in. -/
theorem gwp_cutE {Z : Type} (F : Z → Prop) (l1 : Z → List (Nat × G)) (m1 : Z → List (Nat × Ob)) {x y : Code} {Q2 : GE → Sg E → Prop} (h1 : gwp C r x (gthen (fun σ' => ∃ z, F z ∧ Le C σ' (sg (l1 z) (m1 z) A df)) Q) (sg l m A df)) (h2 : ∀ z, F z → gwp C r y Q2 (sg (l1 z) (m1 z) A df)) : gwp C r x (gthen (gwp C r y Q2) Q) (sg l m A df) :=
  gwp_mono h1 fun e σ' k => by
    cases e with
    | normal => obtain ⟨z, hz, hle⟩ := k; exact gwp_le hle (h2 z hz)
    | _ => exact k
end Go.Gh

/- More rules of written-out states: a region's ways brought together; objects that hold slices of the call's own. -/
namespace Go.Proofs.Ytedihdnkalmoiaa
open Go.Gh
set_option maxRecDepth 100000
variable {E : Env Try.prog} {C : Cx E} {r : Option Nat} {ops : Array Oper} {Q : GE → Sg E → Prop} {rest lst : List Oper} {l l' : List (Nat × G)} {m : List (Nat × Ob)} {A : E.α} {df : List GD} {c : Prop} {g : G} {cd : Code}
theorem lcut (vs : List Nat) {m' : List (Nat × Ob)} {I : List Nat} (hl : (vs.map fun v => (v, mkFr l v)) = l' := by (simp only [List.map_cons, List.map_nil, mkFr_cons, mkFr_nil, Nat.reduceEqDiff, reduceIte] <;> rfl)) (hI : reach l' m df = I := by (simp only [reach, frIds, dfIds, gdIdl, obIdl, hpIds, restrictL, dedupL, pickL, subB, G.idl, G.idls, idls_p, List.nil_append, List.append_nil, List.cons_append, mkHp_cons, mkHp_nil, Nat.reduceEqDiff, reduceIte, List.mem_cons, List.not_mem_nil, or_false, or_true, true_or, false_or, List.filter_cons, List.filter_nil, ne_eq, not_true_eq_false, not_false_eq_true, decide_true, decide_false, Bool.false_eq_true, List.all_cons, List.all_nil, Bool.and_true, idls_told, idls_nil1] <;> rfl)) (hm : restrictL I m = m' := by (simp only [frIds, dfIds, gdIdl, obIdl, hpIds, restrictL, dedupL, pickL, subB, G.idl, G.idls, idls_p, List.nil_append, List.append_nil, List.cons_append, mkHp_cons, mkHp_nil, Nat.reduceEqDiff, reduceIte, List.mem_cons, List.not_mem_nil, or_false, or_true, true_or, false_or, List.filter_cons, List.filter_nil, ne_eq, not_true_eq_false, not_false_eq_true, decide_true, decide_false, Bool.false_eq_true, List.all_cons, List.all_nil, Bool.and_true, idls_told, idls_nil1] <;> rfl)) (h1 : subB (frIds l') I = true := by (simp only [frIds, dfIds, gdIdl, obIdl, hpIds, restrictL, dedupL, pickL, subB, G.idl, G.idls, idls_p, List.nil_append, List.append_nil, List.cons_append, mkHp_cons, mkHp_nil, Nat.reduceEqDiff, reduceIte, List.mem_cons, List.not_mem_nil, or_false, or_true, true_or, false_or, List.filter_cons, List.filter_nil, ne_eq, not_true_eq_false, not_false_eq_true, decide_true, decide_false, Bool.false_eq_true, List.all_cons, List.all_nil, Bool.and_true, idls_told, idls_nil1] <;> rfl)) (h2 : subB (dfIds df) I = true := by (simp only [frIds, dfIds, gdIdl, obIdl, hpIds, restrictL, dedupL, pickL, subB, G.idl, G.idls, idls_p, List.nil_append, List.append_nil, List.cons_append, mkHp_cons, mkHp_nil, Nat.reduceEqDiff, reduceIte, List.mem_cons, List.not_mem_nil, or_false, or_true, true_or, false_or, List.filter_cons, List.filter_nil, ne_eq, not_true_eq_false, not_false_eq_true, decide_true, decide_false, Bool.false_eq_true, List.all_cons, List.all_nil, Bool.and_true, idls_told, idls_nil1] <;> rfl)) (h3 : subB (hpIds m I) I = true := by (simp only [frIds, dfIds, gdIdl, obIdl, hpIds, restrictL, dedupL, pickL, subB, G.idl, G.idls, idls_p, List.nil_append, List.append_nil, List.cons_append, mkHp_cons, mkHp_nil, Nat.reduceEqDiff, reduceIte, List.mem_cons, List.not_mem_nil, or_false, or_true, true_or, false_or, List.filter_cons, List.filter_nil, ne_eq, not_true_eq_false, not_false_eq_true, decide_true, decide_false, Bool.false_eq_true, List.all_cons, List.all_nil, Bool.and_true, idls_told, idls_nil1] <;> rfl)) : gthen (fun σ' => Le C σ' (sg l' m' A df)) Q .normal (sg l m A df : Sg E) := le_clean2 vs hl hm h1 h2 h3
theorem lce (vs : List Nat) {m' : List (Nat × Ob)} {I : List Nat} (hl : (vs.map fun v => (v, mkFr l v)) = l' := by (simp only [List.map_cons, List.map_nil, mkFr_cons, mkFr_nil, Nat.reduceEqDiff, reduceIte] <;> rfl)) (hI : reach l' m df = I := by (simp only [reach, frIds, dfIds, gdIdl, obIdl, hpIds, restrictL, dedupL, pickL, subB, G.idl, G.idls, idls_p, List.nil_append, List.append_nil, List.cons_append, mkHp_cons, mkHp_nil, Nat.reduceEqDiff, reduceIte, List.mem_cons, List.not_mem_nil, or_false, or_true, true_or, false_or, List.filter_cons, List.filter_nil, ne_eq, not_true_eq_false, not_false_eq_true, decide_true, decide_false, Bool.false_eq_true, List.all_cons, List.all_nil, Bool.and_true, idls_told, idls_nil1] <;> rfl)) (hm : restrictL I m = m' := by (simp only [frIds, dfIds, gdIdl, obIdl, hpIds, restrictL, dedupL, pickL, subB, G.idl, G.idls, idls_p, List.nil_append, List.append_nil, List.cons_append, mkHp_cons, mkHp_nil, Nat.reduceEqDiff, reduceIte, List.mem_cons, List.not_mem_nil, or_false, or_true, true_or, false_or, List.filter_cons, List.filter_nil, ne_eq, not_true_eq_false, not_false_eq_true, decide_true, decide_false, Bool.false_eq_true, List.all_cons, List.all_nil, Bool.and_true, idls_told, idls_nil1] <;> rfl)) (h1 : subB (frIds l') I = true := by (simp only [frIds, dfIds, gdIdl, obIdl, hpIds, restrictL, dedupL, pickL, subB, G.idl, G.idls, idls_p, List.nil_append, List.append_nil, List.cons_append, mkHp_cons, mkHp_nil, Nat.reduceEqDiff, reduceIte, List.mem_cons, List.not_mem_nil, or_false, or_true, true_or, false_or, List.filter_cons, List.filter_nil, ne_eq, not_true_eq_false, not_false_eq_true, decide_true, decide_false, Bool.false_eq_true, List.all_cons, List.all_nil, Bool.and_true, idls_told, idls_nil1] <;> rfl)) (h2 : subB (dfIds df) I = true := by (simp only [frIds, dfIds, gdIdl, obIdl, hpIds, restrictL, dedupL, pickL, subB, G.idl, G.idls, idls_p, List.nil_append, List.append_nil, List.cons_append, mkHp_cons, mkHp_nil, Nat.reduceEqDiff, reduceIte, List.mem_cons, List.not_mem_nil, or_false, or_true, true_or, false_or, List.filter_cons, List.filter_nil, ne_eq, not_true_eq_false, not_false_eq_true, decide_true, decide_false, Bool.false_eq_true, List.all_cons, List.all_nil, Bool.and_true, idls_told, idls_nil1] <;> rfl)) (h3 : subB (hpIds m I) I = true := by (simp only [frIds, dfIds, gdIdl, obIdl, hpIds, restrictL, dedupL, pickL, subB, G.idl, G.idls, idls_p, List.nil_append, List.append_nil, List.cons_append, mkHp_cons, mkHp_nil, Nat.reduceEqDiff, reduceIte, List.mem_cons, List.not_mem_nil, or_false, or_true, true_or, false_or, List.filter_cons, List.filter_nil, ne_eq, not_true_eq_false, not_false_eq_true, decide_true, decide_false, Bool.false_eq_true, List.all_cons, List.all_nil, Bool.and_true, idls_told, idls_nil1] <;> rfl)) : Le C (sg l m A df : Sg E) (sg l' m' A df) := le_clean2 vs hl hm h1 h2 h3
theorem clx (vs : List Nat) {m' : List (Nat × Ob)} {I : List Nat} (hl : (vs.map fun v => (v, mkFr l v)) = l' := by (simp only [List.map_cons, List.map_nil, mkFr_cons, mkFr_nil, Nat.reduceEqDiff, reduceIte] <;> rfl)) (hI : reach l' m df = I := by (simp only [reach, frIds, dfIds, gdIdl, obIdl, hpIds, restrictL, dedupL, pickL, subB, G.idl, G.idls, idls_p, List.nil_append, List.append_nil, List.cons_append, mkHp_cons, mkHp_nil, Nat.reduceEqDiff, reduceIte, List.mem_cons, List.not_mem_nil, or_false, or_true, true_or, false_or, List.filter_cons, List.filter_nil, ne_eq, not_true_eq_false, not_false_eq_true, decide_true, decide_false, Bool.false_eq_true, List.all_cons, List.all_nil, Bool.and_true, idls_told, idls_nil1] <;> rfl)) (hm : restrictL I m = m' := by (simp only [frIds, dfIds, gdIdl, obIdl, hpIds, restrictL, dedupL, pickL, subB, G.idl, G.idls, idls_p, List.nil_append, List.append_nil, List.cons_append, mkHp_cons, mkHp_nil, Nat.reduceEqDiff, reduceIte, List.mem_cons, List.not_mem_nil, or_false, or_true, true_or, false_or, List.filter_cons, List.filter_nil, ne_eq, not_true_eq_false, not_false_eq_true, decide_true, decide_false, Bool.false_eq_true, List.all_cons, List.all_nil, Bool.and_true, idls_told, idls_nil1] <;> rfl)) (h1 : subB (frIds l') I = true := by (simp only [frIds, dfIds, gdIdl, obIdl, hpIds, restrictL, dedupL, pickL, subB, G.idl, G.idls, idls_p, List.nil_append, List.append_nil, List.cons_append, mkHp_cons, mkHp_nil, Nat.reduceEqDiff, reduceIte, List.mem_cons, List.not_mem_nil, or_false, or_true, true_or, false_or, List.filter_cons, List.filter_nil, ne_eq, not_true_eq_false, not_false_eq_true, decide_true, decide_false, Bool.false_eq_true, List.all_cons, List.all_nil, Bool.and_true, idls_told, idls_nil1] <;> rfl)) (h2 : subB (dfIds df) I = true := by (simp only [frIds, dfIds, gdIdl, obIdl, hpIds, restrictL, dedupL, pickL, subB, G.idl, G.idls, idls_p, List.nil_append, List.append_nil, List.cons_append, mkHp_cons, mkHp_nil, Nat.reduceEqDiff, reduceIte, List.mem_cons, List.not_mem_nil, or_false, or_true, true_or, false_or, List.filter_cons, List.filter_nil, ne_eq, not_true_eq_false, not_false_eq_true, decide_true, decide_false, Bool.false_eq_true, List.all_cons, List.all_nil, Bool.and_true, idls_told, idls_nil1] <;> rfl)) (h3 : subB (hpIds m I) I = true := by (simp only [frIds, dfIds, gdIdl, obIdl, hpIds, restrictL, dedupL, pickL, subB, G.idl, G.idls, idls_p, List.nil_append, List.append_nil, List.cons_append, mkHp_cons, mkHp_nil, Nat.reduceEqDiff, reduceIte, List.mem_cons, List.not_mem_nil, or_false, or_true, true_or, false_or, List.filter_cons, List.filter_nil, ne_eq, not_true_eq_false, not_false_eq_true, decide_true, decide_false, Bool.false_eq_true, List.all_cons, List.all_nil, Bool.and_true, idls_told, idls_nil1] <;> rfl)) (k : gwp C r cd Q (sg l' m' A df)) : gwp C r cd Q (sg l m A df) := gc_clean2 vs hl hm h1 h2 h3 k
theorem lendx (vs : List Nat) {m' : List (Nat × Ob)} {n n' : Nat} {IV : Nat → Sg E → Prop} {I : List Nat} (hl : (vs.map fun v => (v, mkFr l v)) = l' := by (simp only [List.map_cons, List.map_nil, mkFr_cons, mkFr_nil, Nat.reduceEqDiff, reduceIte] <;> rfl)) (hI : reach l' m df = I := by (simp only [reach, frIds, dfIds, gdIdl, obIdl, hpIds, restrictL, dedupL, pickL, subB, G.idl, G.idls, idls_p, List.nil_append, List.append_nil, List.cons_append, mkHp_cons, mkHp_nil, Nat.reduceEqDiff, reduceIte, List.mem_cons, List.not_mem_nil, or_false, or_true, true_or, false_or, List.filter_cons, List.filter_nil, ne_eq, not_true_eq_false, not_false_eq_true, decide_true, decide_false, Bool.false_eq_true, List.all_cons, List.all_nil, Bool.and_true, idls_told, idls_nil1] <;> rfl)) (hm : restrictL I m = m' := by (simp only [frIds, dfIds, gdIdl, obIdl, hpIds, restrictL, dedupL, pickL, subB, G.idl, G.idls, idls_p, List.nil_append, List.append_nil, List.cons_append, mkHp_cons, mkHp_nil, Nat.reduceEqDiff, reduceIte, List.mem_cons, List.not_mem_nil, or_false, or_true, true_or, false_or, List.filter_cons, List.filter_nil, ne_eq, not_true_eq_false, not_false_eq_true, decide_true, decide_false, Bool.false_eq_true, List.all_cons, List.all_nil, Bool.and_true, idls_told, idls_nil1] <;> rfl)) (h1 : subB (frIds l') I = true := by (simp only [frIds, dfIds, gdIdl, obIdl, hpIds, restrictL, dedupL, pickL, subB, G.idl, G.idls, idls_p, List.nil_append, List.append_nil, List.cons_append, mkHp_cons, mkHp_nil, Nat.reduceEqDiff, reduceIte, List.mem_cons, List.not_mem_nil, or_false, or_true, true_or, false_or, List.filter_cons, List.filter_nil, ne_eq, not_true_eq_false, not_false_eq_true, decide_true, decide_false, Bool.false_eq_true, List.all_cons, List.all_nil, Bool.and_true, idls_told, idls_nil1] <;> rfl)) (h2 : subB (dfIds df) I = true := by (simp only [frIds, dfIds, gdIdl, obIdl, hpIds, restrictL, dedupL, pickL, subB, G.idl, G.idls, idls_p, List.nil_append, List.append_nil, List.cons_append, mkHp_cons, mkHp_nil, Nat.reduceEqDiff, reduceIte, List.mem_cons, List.not_mem_nil, or_false, or_true, true_or, false_or, List.filter_cons, List.filter_nil, ne_eq, not_true_eq_false, not_false_eq_true, decide_true, decide_false, Bool.false_eq_true, List.all_cons, List.all_nil, Bool.and_true, idls_told, idls_nil1] <;> rfl)) (h3 : subB (hpIds m I) I = true := by (simp only [frIds, dfIds, gdIdl, obIdl, hpIds, restrictL, dedupL, pickL, subB, G.idl, G.idls, idls_p, List.nil_append, List.append_nil, List.cons_append, mkHp_cons, mkHp_nil, Nat.reduceEqDiff, reduceIte, List.mem_cons, List.not_mem_nil, or_false, or_true, true_or, false_or, List.filter_cons, List.filter_nil, ne_eq, not_true_eq_false, not_false_eq_true, decide_true, decide_false, Bool.false_eq_true, List.all_cons, List.all_nil, Bool.and_true, idls_told, idls_nil1] <;> rfl)) (h : n' < n) (hV : IV n' (sg l' m' A df)) :
    gthen (fun σ' => ∃ n' σ'', n' < n ∧ Le C σ' σ'' ∧ IV n' σ'') Q .normal (sg l m A df : Sg E) := ⟨n', _, h, le_clean2 vs hl hm h1 h2 h3, hV⟩
theorem lbegx (vs : List Nat) {m' : List (Nat × Ob)} {IV : Nat → Sg E → Prop} {I : List Nat} (hl : (vs.map fun v => (v, mkFr l v)) = l' := by (simp only [List.map_cons, List.map_nil, mkFr_cons, mkFr_nil, Nat.reduceEqDiff, reduceIte] <;> rfl)) (hI : reach l' m df = I := by (simp only [reach, frIds, dfIds, gdIdl, obIdl, hpIds, restrictL, dedupL, pickL, subB, G.idl, G.idls, idls_p, List.nil_append, List.append_nil, List.cons_append, mkHp_cons, mkHp_nil, Nat.reduceEqDiff, reduceIte, List.mem_cons, List.not_mem_nil, or_false, or_true, true_or, false_or, List.filter_cons, List.filter_nil, ne_eq, not_true_eq_false, not_false_eq_true, decide_true, decide_false, Bool.false_eq_true, List.all_cons, List.all_nil, Bool.and_true, idls_told, idls_nil1] <;> rfl)) (hm : restrictL I m = m' := by (simp only [frIds, dfIds, gdIdl, obIdl, hpIds, restrictL, dedupL, pickL, subB, G.idl, G.idls, idls_p, List.nil_append, List.append_nil, List.cons_append, mkHp_cons, mkHp_nil, Nat.reduceEqDiff, reduceIte, List.mem_cons, List.not_mem_nil, or_false, or_true, true_or, false_or, List.filter_cons, List.filter_nil, ne_eq, not_true_eq_false, not_false_eq_true, decide_true, decide_false, Bool.false_eq_true, List.all_cons, List.all_nil, Bool.and_true, idls_told, idls_nil1] <;> rfl)) (h1 : subB (frIds l') I = true := by (simp only [frIds, dfIds, gdIdl, obIdl, hpIds, restrictL, dedupL, pickL, subB, G.idl, G.idls, idls_p, List.nil_append, List.append_nil, List.cons_append, mkHp_cons, mkHp_nil, Nat.reduceEqDiff, reduceIte, List.mem_cons, List.not_mem_nil, or_false, or_true, true_or, false_or, List.filter_cons, List.filter_nil, ne_eq, not_true_eq_false, not_false_eq_true, decide_true, decide_false, Bool.false_eq_true, List.all_cons, List.all_nil, Bool.and_true, idls_told, idls_nil1] <;> rfl)) (h2 : subB (dfIds df) I = true := by (simp only [frIds, dfIds, gdIdl, obIdl, hpIds, restrictL, dedupL, pickL, subB, G.idl, G.idls, idls_p, List.nil_append, List.append_nil, List.cons_append, mkHp_cons, mkHp_nil, Nat.reduceEqDiff, reduceIte, List.mem_cons, List.not_mem_nil, or_false, or_true, true_or, false_or, List.filter_cons, List.filter_nil, ne_eq, not_true_eq_false, not_false_eq_true, decide_true, decide_false, Bool.false_eq_true, List.all_cons, List.all_nil, Bool.and_true, idls_told, idls_nil1] <;> rfl)) (h3 : subB (hpIds m I) I = true := by (simp only [frIds, dfIds, gdIdl, obIdl, hpIds, restrictL, dedupL, pickL, subB, G.idl, G.idls, idls_p, List.nil_append, List.append_nil, List.cons_append, mkHp_cons, mkHp_nil, Nat.reduceEqDiff, reduceIte, List.mem_cons, List.not_mem_nil, or_false, or_true, true_or, false_or, List.filter_cons, List.filter_nil, ne_eq, not_true_eq_false, not_false_eq_true, decide_true, decide_false, Bool.false_eq_true, List.all_cons, List.all_nil, Bool.and_true, idls_told, idls_nil1] <;> rfl)) (hV : ∃ n, IV n (sg l' m' A df)) :
    ∃ n σ'', Le C (sg l m A df : Sg E) σ'' ∧ IV n σ'' := by
  obtain ⟨n, hV⟩ := hV
  exact ⟨n, _, le_clean2 vs hl hm h1 h2 h3, hV⟩
end Go.Proofs.Ytedihdnkalmoiaa
